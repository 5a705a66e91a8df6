/- Functions that overwrite plain data with other plain data of the same kinds: what they leave alone. No condition of its own. Marking functions gone through: the text's run overwrites plain data alone. No condition of its own. Functions that write into rows handed to them: their contracts out of their text. No condition of its own. Functions within functions that call themselves by the variable that holds them: their contracts out of their text. No condition of its own. Functions to which a variable is handed by its address: their contracts out of their text. No condition of its own. -/
import Derived.Test.YtefbaonpbemejabGreatDoorPgE
import Derived.Defers
namespace Go.Proofs.YtefbaonpbemejabGreatDoor
set_option linter.unusedSimpArgs false
set_option linter.unusedVariables false
open Go.RowKit
def Kin(u v:Value):Prop:=u=v\/(∃ k n m,u = .int k n/\v = .int k m/\(Lit.int k m).wf=true)\/(∃ a b,u = .bool a/\v = .bool b)\/(∃ s t,u = .string s/\v = .string t/\t.size<=maxLen)
theorem Kin.refl(u:Value):Kin u u := .inl rfl
theorem Kin.trans{u v x:Value}(h:Kin u v)(k:Kin v x):Kin u x:=by
 rcases h with rfl | ⟨i,n,m,rfl,rfl,h⟩ | ⟨a,b,rfl,rfl⟩ | ⟨s,t,rfl,rfl,h⟩
 .exact k
 .rcases k with rfl | ⟨i',n',m',e,rfl,h'⟩ | ⟨a,b,e,rfl⟩ | ⟨s,t,e,rfl,h'⟩
  .exact .inr (.inl ⟨i,n,m,rfl,rfl,h⟩)
  .cases e; exact .inr (.inl ⟨_,_,_,rfl,rfl,h'⟩)
  .cases e
  .cases e
 .rcases k with rfl | ⟨i',n',m',e,rfl,h'⟩ | ⟨a',b',e,rfl⟩ | ⟨s,t,e,rfl,h'⟩
  .exact .inr (.inr (.inl ⟨a,b,rfl,rfl⟩))
  .cases e
  .exact .inr (.inr (.inl ⟨a,b',rfl,rfl⟩))
  .cases e
 .rcases k with rfl | ⟨i',n',m',e,rfl,h'⟩ | ⟨a',b',e,rfl⟩ | ⟨s',t',e,rfl,h'⟩
  .exact .inr (.inr (.inr ⟨s,t,rfl,rfl,h⟩))
  .cases e
  .cases e
  .exact .inr (.inr (.inr ⟨s,t',rfl,rfl,h'⟩))
def Ty.like:(E:Ty)->E.den->E.den->Prop
 | .int _,_,_=>True
 | .bool,_,_=>True
 | .str,_,_=>True
 | .slice e,xs,ys=>xs.length=ys.length/\∀(i:Nat)(h:i<xs.length)(h':i<ys.length),e.like xs[i] ys[i]
 | .ptr _,none,none=>True
 | .ptr e,some x,some y=>e.like x y
 | .ptr _,_,_=>False
 | .agg t,x,y=>t.like x y
 | .nil,_,_=>True
 | .pair a b,x,y=>a.like x.1 y.1/\b.like x.2 y.2
 | .clo _ t,x,y=>t.like x y
 | .map _,xs,ys=>xs=ys
theorem Ty.like_refl:∀(E:Ty)(x:E.den),E.like x x
 | .int _,_=>trivial
 | .bool,_=>trivial
 | .str,_=>trivial
 | .slice e,_=>⟨rfl,fun _ _ _=>e.like_refl _⟩
 | .ptr _,none=>trivial
 | .ptr e,some _=>e.like_refl _
 | .agg t,x=>t.like_refl x
 | .nil,_=>trivial
 | .pair a b,x=>⟨a.like_refl _,b.like_refl _⟩
 | .clo _ t,x=>t.like_refl x
 | .map _,_=>rfl
theorem Ty.like_trans:∀(E:Ty){x y z:E.den},E.like x y->E.like y z->E.like x z
 | .int _,_,_,_,_,_=>trivial
 | .bool,_,_,_,_,_=>trivial
 | .str,_,_,_,_,_=>trivial
 | .slice e,_,_,_,h,k=>⟨h.1.trans k.1,fun i h1 h2=>e.like_trans (h.2 i h1 (by rw[<- h.1]; exact h1)) (k.2 i (by rw[<- h.1]; exact h1) h2)⟩
 | .ptr _,none,none,none,_,_=>trivial
 | .ptr e,some _,some _,some _,h,k=>e.like_trans (show e.like _ _ from h) (show e.like _ _ from k)
 | .ptr _,none,some _,_,h,_=>h.elim
 | .ptr _,some _,none,_,h,_=>h.elim
 | .ptr _,none,none,some _,_,k=>k.elim
 | .ptr _,some _,some _,none,_,k=>k.elim
 | .agg t,_,_,_,h,k=>t.like_trans (show t.like _ _ from h) (show t.like _ _ from k)
 | .nil,_,_,_,_,_=>trivial
 | .pair a b,_,_,_,h,k=>⟨a.like_trans h.1 k.1,b.like_trans h.2 k.2⟩
 | .clo _ t,_,_,_,h,k=>t.like_trans (show t.like _ _ from h) (show t.like _ _ from k)
 | .map _,_,_,_,h,k=>Eq.trans h k
structure Scr (B:Nat->Prop) (w w':World):Prop where
 low:Below 0 w w'
 out:∀ b,b<w.heap.size->¬ B b->w'.heap[b]?=w.heap[b]?
 inn:∀ b cur t,B b->w.heap[b]?=some (.cells cur t (0,0))->∃ cur':Array Value,w'.heap[b]?=some (.cells cur' t (0,0))/\cur'.size=cur.size/\∀(j:Nat)(u:Value),cur[j]?=some u->∃ u',cur'[j]?=some u'/\Kin u u'
theorem Scr.refl(B:Nat->Prop)(w:World):Scr B w w:=⟨Below.refl _ _,fun _ _ _=>rfl,fun b cur t _ h=>⟨cur,h,rfl,fun j u hu=>⟨u,hu,.refl u⟩⟩⟩
theorem Scr.of_ext{B:Nat->Prop}{w w':World}(h:Ext w w'):Scr B w w':=
 ⟨Below.mono h (Nat.zero_le _),fun b hb _=>h.block hb,fun b cur t _ hb=>⟨cur,by
  have hlt:b<w.heap.size:=(aw.1 hb).1;rw[h.block hlt]; exact hb,rfl,fun j u hu=>⟨u,hu,.refl u⟩⟩⟩
theorem Scr.trans{B:Nat->Prop}{a b c:World}(h:Scr B a b)(k:Scr B b c):Scr B a c:=
 ⟨Below.trans h.low k.low,fun i hi hn=>(k.out i (am hi h.low.size) hn).trans (h.out i hi hn),fun i cur t hi hc=>by obtain ⟨c1,g1,g2,g3⟩:=h.inn i cur t hi hc;obtain ⟨c2,k1,k2,k3⟩:=k.inn i c1 t hi g1;exact ⟨c2,k1,k2.trans g2,fun j u hu=>by obtain ⟨u1,e1,e2⟩:=g3 j u hu;obtain ⟨u2,f1,f2⟩:=k3 j u1 e1;exact ⟨u2,f1,e2.trans f2⟩⟩⟩
theorem Scr.mono{B B':Nat->Prop}{w w':World}(h:Scr B w w')(hB:∀ b,B b->B' b)(hs:∀ b,B' b->¬ B b->b<w.heap.size):Scr B' w w':=
 ⟨h.low,fun b hb hn=>h.out b hb fun hh=>hn (hB b hh),fun b cur t hb hc=>by
  by_cases hh:B b
  .exact h.inn b cur t hh hc
  .exact ⟨cur,by rw[h.out b (hs b hb hh) hh]; exact hc,rfl,fun j u hu=>⟨u,hu,.refl u⟩⟩⟩
theorem Scr.solid{B:Nat->Prop}{w w':World}(h:Scr B w w'){b:Nat}(hb:B b)(hs:Solid w b):Solid w' b:=by obtain ⟨cur,t,hc⟩:=hs;obtain ⟨c1,g1,_⟩:=h.inn b cur t hb hc;exact ⟨c1,t,g1⟩
theorem Scr.cell{B:Nat->Prop}{w w':World}(h:Scr B w w'){b:Nat}(hb:B b)(hs:Solid w b){o:Nat}{u:Value}(hu:w.cell? ⟨b,o,none⟩=some u):∃ u',w'.cell? ⟨b,o,none⟩=some u'/\Kin u u':=by obtain ⟨cur,t,hc⟩:=hs;obtain ⟨c1,g1,_,g3⟩:=h.inn b cur t hb hc;rw[q23 hc] at hu;obtain ⟨u',e1,e2⟩:=g3 o u hu;exact ⟨u',by rw[q23 g1]; exact e1,e2⟩
theorem q271{B:Type}{p:Nat->B->Prop}:∀ n,(∀ i,i<n->∃ y,p i y)->∃ ys:List B,ys.length=n/\∀(i:Nat)(h:i<ys.length),p i ys[i]
 | 0,_=>⟨[],rfl,fun i h=>absurd h (by simp)⟩
 | n+1,h=>by
  obtain ⟨ys,h1,h2⟩:=q271 n fun i hi=>h i (by omega);obtain ⟨y,hy⟩:=h n (by omega);refine ⟨ys++[y],by simp[h1],fun i hi=>?_⟩;by_cases hlt:i<ys.length
  .rw[bE hlt]; exact h2 i hlt
  .have:i=n:=by simp at hi; omega
   subst this;rw[bD (by omega)];simpa [h1] using hy
def Kins(us vs:List Value):Prop:=us.length=vs.length/\∀(i:Nat)(u v:Value),us[i]?=some u->vs[i]?=some v->Kin u v
theorem Kins.refl(us:List Value):Kins us us:=⟨rfl,fun i u v h k=>by rw[h] at k; cases k; exact .refl u⟩
theorem Scr.cells{B:Nat->Prop}{w w':World}(h:Scr B w w'){b o:Nat}(hb:B b)(hs:Solid w b){us:List Value}(hu:q30 w b o us):∃ us',Kins us us'/\q30 w' b o us':=by
 obtain ⟨us',h1,h2⟩:=q271 (p:=fun j u'=>∃ u,us[j]?=some u/\w'.cell? ⟨b,o+j,none⟩=some u'/\Kin u u') us.length fun j hj=>by obtain ⟨u',e1,e2⟩:=h.cell hb hs (hu j us[j] (aW hj));exact ⟨u',_,aW hj,e1,e2⟩
 refine ⟨us',⟨h1.symm,fun i u v hu hv=>?_⟩,fun j u hj=>?_⟩
 .obtain ⟨hlt,rfl⟩:=aQ.1 hv;obtain ⟨u0,e0,_,e2⟩:=h2 i hlt;rw[hu] at e0; cases e0;exact e2
 .obtain ⟨hlt,rfl⟩:=aQ.1 hj;obtain ⟨_,_,e1,_⟩:=h2 j hlt;exact e1
theorem Scr.rp{B:Nat->Prop}{w w':World}(h:Scr B w w')(hs:∀ b,B b->Solid w b):∀(E:Ty){us us':List Value}{x:E.den},E.rp w B us x->Kins us us'->∃ x',E.like x x'/\E.rp w' B us' x':=by
 have one:∀{u:Value}{us':List Value},Kins [u] us'->∃ u',us'=[u']/\Kin u u':=by
  intro u us' hk
  match us',hk with
  | [u'],hk=>exact ⟨u',rfl,hk.2 0 u u' rfl rfl⟩
  | [],hk=>exact absurd hk.1 (by simp)
  | _ :: _ :: _,hk=>exact absurd hk.1 (by simp)
 intro E
 induction E with
 | map e _=>
  intro us us' x hr hk;obtain ⟨b,es,clock,_,hb,hh,_⟩:=hr;obtain ⟨cur,t,hc⟩:=hs b hb;rw[hh] at hc; cases hc
 | int k=>
  intro us us' x hr hk;obtain ⟨rfl,hw⟩:=hr;obtain ⟨u',rfl,hu⟩:=one hk;rcases hu with rfl | ⟨i,n,m,e,rfl,h1⟩ | ⟨a,b,e,rfl⟩ | ⟨s,t,e,rfl,h1⟩
  .exact ⟨x,trivial,rfl,hw⟩
  .cases e; exact ⟨m,trivial,rfl,h1⟩
  .cases e
  .cases e
 | bool=>
  intro us us' x hr hk;obtain rfl:us=[.bool x]:=hr;obtain ⟨u',rfl,hu⟩:=one hk;rcases hu with rfl | ⟨i,n,m,e,rfl,h1⟩ | ⟨a,b,e,rfl⟩ | ⟨s,t,e,rfl,h1⟩
  .exact ⟨x,trivial,rfl⟩
  .cases e
  .exact ⟨b,trivial,rfl⟩
  .cases e
 | str=>
  intro us us' x hr hk;obtain ⟨rfl,hw⟩:=hr;obtain ⟨u',rfl,hu⟩:=one hk;rcases hu with rfl | ⟨i,n,m,e,rfl,h1⟩ | ⟨a,b,e,rfl⟩ | ⟨s,t,e,rfl,h1⟩
  .exact ⟨x,trivial,rfl,hw⟩
  .cases e
  .cases e
  .exact ⟨t,trivial,rfl,h1⟩
 | slice e ih=>
  intro us us' xs hr hk;obtain ⟨A,cap,rfl,h1,h2,h3⟩:=hr;obtain ⟨u',rfl,hu⟩:=one hk;have hu:u' = .slice A xs.length cap:=by
   rcases hu with rfl | ⟨i,n,m,e,rfl,h1⟩ | ⟨a,b,e,rfl⟩ | ⟨s,t,e,rfl,h1⟩
   .rfl
   .cases e
   .cases e
   .cases e
  subst hu;by_cases h0:0<xs.length
  .obtain ⟨b,o,rfl,hb,hc⟩:=h3 h0;obtain ⟨ys,g1,g2⟩:=q271 (p:=fun i y=>∃ (hi:i<xs.length) (us:List Value),e.like xs[i] y/\e.rp w' B us y/\q30 w' b (o+i * e.sz) us) xs.length fun i hi=>by obtain ⟨us,hr,hcs⟩:=hc i hi;obtain ⟨us',k1,k2⟩:=h.cells hb (hs b hb) hcs;obtain ⟨y,l1,l2⟩:=ih hr k1;exact ⟨y,hi,us',l1,l2,k2⟩
   refine ⟨ys,⟨g1.symm,fun i hi hi'=>?_⟩,some ⟨b,o,none⟩,cap,by rw[g1],by rw[g1]; exact h1,h2,fun _=>⟨b,o,rfl,hb,fun i hi=>?_⟩⟩
   .obtain ⟨_,_,l1,_⟩:=g2 i hi'; exact l1
   .obtain ⟨_,us,_,l2,l3⟩:=g2 i hi; exact ⟨us,l2,l3⟩
  .have:xs=[]:=ag (by omega);subst this;exact ⟨[],⟨rfl,fun i h=>absurd h (by simp)⟩,A,cap,rfl,h1,h2,fun h=>absurd h (by simp)⟩
 | ptr e ih=>
  intro us us' x hr hk;cases x with
  | none=>
   obtain rfl:us=[.pointer none]:=hr;obtain ⟨u',rfl,hu⟩:=one hk;rcases hu with rfl | ⟨i,n,m,e,rfl,h1⟩ | ⟨a,b,e,rfl⟩ | ⟨s,t,e,rfl,h1⟩
   .exact ⟨none,trivial,rfl⟩
   .cases e
   .cases e
   .cases e
  | some x=>
   obtain ⟨b,o,vs,rfl,hb,hr,hc⟩:=hr;obtain ⟨u',rfl,hu⟩:=one hk;rcases hu with rfl | ⟨i,n,m,e,rfl,h1⟩ | ⟨a,b,e,rfl⟩ | ⟨s,t,e,rfl,h1⟩
   .obtain ⟨vs',k1,k2⟩:=h.cells hb (hs b hb) hc;obtain ⟨y,l1,l2⟩:=ih hr k1;exact ⟨some y,l1,b,o,vs',rfl,hb,l2,k2⟩
   .cases e
   .cases e
   .cases e
 | agg t ih=>exact fun hr hk=>ih hr hk
 | nil=>
  intro us us' x hr hk;obtain rfl:us=[]:=hr;exact ⟨(),trivial,ag hk.1.symm⟩
 | pair a b iha ihb=>
  intro us us' x hr hk;obtain ⟨c1,c2,rfl,h1,h2⟩:=hr;have hl:us'.length=c1.length+c2.length:=by rw[<- hk.1,aY]
  have k1:Kins c1 (us'.take c1.length):=⟨by rw[aV]; omega,fun i u v hu hv=>by
   rw[az] at hv;split at hv
   .exact hk.2 i u v (by rw[aH (aQ.1 hu).1]; exact hu) hv
   .cases hv⟩
  have k2:Kins c2 (us'.drop c1.length):=⟨by rw[bI]; omega,fun i u v hu hv=>by rw[bd] at hv;exact hk.2 _ u v (by rw[aM (by omega),bC]; exact hu) hv⟩;obtain ⟨y,l1,l2⟩:=iha h1 k1;obtain ⟨z,m1,m2⟩:=ihb h2 k2;exact ⟨(y,z),⟨l1,m1⟩,_,_,(aX c1.length us').symm,l2,m2⟩
 | clo g t ih=>
  intro us us' x hr hk;obtain ⟨vs,rfl,hr⟩:=hr;obtain ⟨u',rfl,hu⟩:=one hk;rcases hu with rfl | ⟨i,n,m,e,rfl,h1⟩ | ⟨a,b,e,rfl⟩ | ⟨s,t,e,rfl,h1⟩
  .obtain ⟨y,l1,l2⟩:=ih hr (Kins.refl vs);exact ⟨y,l1,vs,rfl,l2⟩
  .cases e
  .cases e
  .cases e
structure MSpec where
 E:Ty
 fn:E.den->Int->Option Int
def MarkOk(P:Program)(f:FuncId)(S:MSpec):Prop:=
 ∀(w:World)(cs:List Value)(x x':S.E.den)(k n:Int)(B:Nat->Prop),(∀ b,B b->Solid w b)->S.E.like x x'->S.E.rp w B cs x'->(Lit.int .i64 k).wf=true->S.fn x k=some n->
  Calls P f #[pack1 S.E cs,.int .i64 k] w (fun e w'=>e = .returned (.int .i64 n)/\(Lit.int .i64 n).wf=true/\Scr B w w')
abbrev MarkL:=List (FuncId×MSpec)
def MarkL.find:MarkL->FuncId->Option MSpec
 | [],_=>none
 | (g,s) :: r,f=>bif Nat.beq g f then some s else MarkL.find r f
theorem MarkL.find_mem:∀{L:MarkL}{f:FuncId}{S:MSpec},L.find f=some S->(f,S)∈L
 | [],_,_,h=>by cases h
 | (g,s) :: r,f,S,h=>by
  unfold MarkL.find at h;cases hb:Nat.beq g f with
  | true=>rw[hb] at h; cases h; rw[<- aU hb]; exact aC
  | false=>rw[hb] at h; exact aL _ (MarkL.find_mem h)
section
variable {M:Type} {P:Program} {w0:Base} {ok0:Nat->Prop}
def markK(S:MSpec)(vs:List AV)(σ:Env)(K:AV->Env->Option M):Option M:=match vs with
 | [v,.one (.int .i64 k)]=>bif (v.isAgg == S.E.isAgg && S.E.proper) && (v.cells.all AC.soleC && q263 σ.h (q25 v.cells)) then
  match S.E.ofAcs (onlyH (q25 v.cells) σ.h 0) v.cells with
  | some x=>obind (S.fn x k) fun n=>K (.one (.int .i64 n)) (σ.takes (q25 v.cells))
  | none=>none
  else none
 | _=>none
def q392(L:MarkL)(I:Inl M):Inl M:=fun f vs σ K=>match L.find f with
 | some S=>markK S vs σ K
 | none=>I f vs σ K
theorem q528{L:MarkL}{I:Inl M}(hL:∀ p∈L,MarkOk P p.1 p.2/\q13 P p.1)(hI:InlOk P w0 ok0 I):InlOk P w0 ok0 (q392 L I):=by
 intro f vs σ K r h;unfold q392 at h;split at h
 case h_2=>exact hI f vs σ K r h
 rename_i S hS;obtain ⟨hM,hcb⟩:=hL _ (MarkL.find_mem hS);unfold markK at h;split at h
 case h_2=>cases h
 rename_i v k;obtain ⟨hb,h⟩:=q11 h;simp only[aT,beq_iff_eq] at hb;obtain ⟨⟨hagg,hprop⟩,hsole,htk⟩:=hb;obtain ⟨hnd,hso⟩:=q154 htk;split at h
 case h_2=>cases h
 rename_i x hx;obtain ⟨n,hn,hK⟩:=q17 h;refine ⟨_,_,hK,Fr.takes _ _,hcb,fun fr a w G Vs hR hlen hrel=>?_⟩
 match Vs,hlen with
 | [V,V2],_=>
  have hv:=hrel 0 v V rfl rfl;have hk:RC w (imm w0 ok0 w G) G (.int .i64 k) V2:=hrel 1 _ V2 rfl rfl;obtain ⟨rfl,hkw⟩:=hk;have:∃ cs,V=pack1 S.E cs/\RCs w (imm w0 ok0 w G) G v.cells cs:=by
   cases v with
   | one c=>exact ⟨[V],by simp[pack1,<- hagg,AV.isAgg],RCs.cons hv RCs.nil⟩
   | agg cs=>obtain ⟨us,rfl,hr⟩:=hv; exact ⟨us,by simp[pack1,<- hagg,AV.isAgg],hr⟩
   | tup l=>exact absurd (ao.1 hsole .bad (by simp[AV.cells])) (by simp[AC.soleC])
  obtain ⟨cs,rfl,hcs⟩:=this;have hrp:=q765 (σ:=σ) hR.st rfl hso hsole hx hcs;have hsl:=q452 (σ:=σ) hR.st rfl hso;refine (hM w cs x x k n (q79 σ.h G (q25 v.cells)) hsl (Ty.like_refl _ _) hrp hkw hn).mono fun e w' ⟨he,hnw,hscr⟩=>⟨_,he,_,hR.takes (q25 v.cells) hscr.low (fun b hb hno=>hscr.out b hb fun hh=>hno hh.any),rfl,hnw⟩
 | [],h=>simp at h
 | [_],h=>simp at h
 | _ :: _ :: _ :: _,h=>simp at h
def pevFnM(P:Program)(C:Ctx)(L:MarkL)(N:Nat)(H:Hints)(S:FnSpec)(fn:Func)(x:S.ps.den):Option S.rs.den:=
 match fn.body with
 | some c=>pev P C (q392 L (inlK P C.fns C.tabs C.io N C.inl 4)) N H c 0 (entry S fn x) fun e σ=>retK P S fn e ((σ.mkOwn H.rets).mkOwnC H.retc)
 | none=>none
theorem q493{C:Ctx}{N:Nat}{H:Hints}{Pre:World->Prop}{L:MarkL}{f:FuncId}{fn:Func}{S:FnSpec}(hs:Site P C Pre)(hL:∀ p∈L,MarkOk P p.1 p.2/\q13 P p.1)(hf:P.funcs[f]?=some fn)(hpl:q76 S.ps=true)(h:∀ x r,S.fn x=some r->pevFnM P C L N H S fn x=some r):Sound P Pre f S:=by
 intro w args x r ok hpre hlow hargs hx;have h1:=h x r hx;unfold pevFnM at h1;split at h1
 .rename_i c hc;have hp:Place P C Pre (Base.of w) ok:=⟨hs.calls,fun w' hw=>hs.pre w w' hpre hw.of,hlow,fun w' hw=>hs.tabs w' (hs.pre w w' hpre hw.of)⟩;obtain ⟨e,σ',g1,g2,g3⟩:=q434 (H:=H) hp (q528 hL (inl_ok (N:=N) rfl hp.calls hp.pre hp.low hp.tabs hs.ios hs.mixed hs.inl 4)) hs.ios hs.mixed c 0 _ (fun e σ=>retK P S fn e ((σ.mkOwn H.rets).mkOwnC H.retc)) r h1;refine calls_of_wp hf hc ?_;have hal:(S.ps.avs x).length=args.size:=by rw[hargs.len]; simp
  have hR:Rel (Base.of w) ok (fun _=>undef) (entry S fn x) { tmps:=args++Array.replicate (fn.ntmps - args.size) undef,defers:=[] } w (fun _=>none):=by
   refine ⟨by simp[entry,hal],fun i p v hp hv=>?_,rfl,⟨(fun id gh hg=>by cases hg),(fun id id' gh gh' b hg=>by cases hg),(fun id gh b hg=>by cases hg),BExt.refl w _⟩,(fun id p k l hp=>by simp[entry] at hp)⟩;simp only[entry,a8,aa] at hp;obtain ⟨q,hq,rfl⟩:=hp;by_cases hi:i<args.size
   .rw[aH (by rw[hal]; exact hi)] at hq;rw[Array.getElem?_append_left hi] at hv;exact hargs.rv (fun b hb=>⟨.inl hb,hlow b hb,fun id gh hg=>by cases hg⟩) S.ps _ x hpl i q v hq (by simpa using hv)
   .rw[aM (by omega),bL] at hq;rw[Array.getElem?_append_right (by omega),aZ] at hv;split at hq
    .split at hv
     .cases hq; cases hv; rfl
     .cases hv
    .cases hq
  refine g3 _ _ w _ _ hR fun a' w' G' hR'=>?_;have he:e = .normal\/e = .ret:=by cases e <;> first | exact .inl rfl | exact .inr rfl | cases g1
  obtain ⟨G0,hR0⟩:=hR'.mkOwn H.rets;obtain ⟨G1,hR1⟩:=hR0.mkOwnC H.retc;obtain ⟨V,hV,hres⟩:=q411 g1 he hR1 hlow;rcases he with rfl | rfl
  .exact ⟨hR'.dfs,V,hV,V,rfl,hres⟩
  .exact ⟨hR'.dfs,V,hV,V,rfl,hres⟩
 .cases h1
end
inductive MV where
 | bad
 | int (k:IntKind) (n:Int)
 | bool (b:Bool)
 | str
 | slc (e:Ty) (xs:List e.den)
 | agg (E:Ty) (x:E.den)
 | eptr (e:Ty) (x:e.den) (off:Nat)
 | box (E:Ty) (x:E.den) (off:Nat)
 deriving Inhabited
abbrev MHint:=List (Nat×List Nat×List Nat)
def mhint:MHint->Nat->Option (List Nat×List Nat)
 | [],_=>none
 | (k,h) :: r,i=>bif Nat.beq k i then some h else mhint r i
abbrev TextL:=List (FuncId×(Int->Option ByteArray))
def TextL.find:TextL->FuncId->Option (Int->Option ByteArray)
 | [],_=>none
 | (g,s) :: r,f=>bif Nat.beq g f then some s else TextL.find r f
def mvOf:Value->MV
 | .int k n=>bif (Lit.int k n).wf then .int k n else .bad
 | .bool b => .bool b
 | _ => .bad
def mevA(σ:List MV):Operand->MV
 | .tmp i=>nth σ i .bad
 | .const v=>mvOf v
 | _ => .bad
section
variable {M:Type} (P:Program) (L:MarkL) (X:TextL)
def mload(t:TypeId)(cs:List AC)(off:Nat):Option MV:=match P.underlying t with
 | some d=>bif aggD d then (match tyOf P 16 t with
  | some (.agg E)=>bif decide (off+sizeT P t<=cs.length) then (match E.ofAcs [] (sub cs off (sizeT P t)) with
   | some y=>some (.agg (.agg E) y)
   | none=>none) else none
  | _=>none) else (match nth cs off .bad with
  | .slc e xs=>some (.slc e xs)
  | _=>none)
 | none=>none
def kinB(c:AC)(v:MV):Bool:=match c,v with
 | .int k _,.int k' _=>decide (k=k')
 | .bool _,.bool _=>true
 | .str _,.str=>true
 | _,_=>false
def mint(op:BinOp)(k:IntKind)(a b:Int):Option MV:=match intK op k a b ⟨[],[]⟩ (fun v _=>some v) with
 | some (.one (.int k n))=>some (.int k n)
 | some (.one (.bool b))=>some (.bool b)
 | _=>none
def mopK(σ:List MV)(o:Oper)(K:MV->Option M):Option M:=bif o.guard.isNone then match o.op with
 | .move x=>K (mevA σ x)
 | .assign x=>K (mevA σ x)
 | .box _ x=>match mevA σ x with
  | .agg E y=>bif E.isAgg then K (.box E y 0) else none
  | _=>none
 | .fieldAddr s x f=>match q201 P s f,mevA σ x with
  | some (fo,ft),.eptr e y off=>bif Nat.blt 0 (sizeT P ft) then K (.eptr e y (off+fo)) else none
  | some (fo,ft),.box E y off=>bif Nat.blt 0 (sizeT P ft) then K (.box E y (off+fo)) else none
  | _,_=>none
 | .indexAddr t x ix=>match mevA σ x,mevA σ ix with
  | .slc e xs,.int _ i=>bif idxOk P t e then obind (atI xs i) fun y=>K (.eptr e y 0) else none
  | _,_=>none
 | .load t x=>match mevA σ x with
  | .eptr e y off=>match mload P t (e.acs y) off with
   | some v=>K v
   | none=>none
  | .box E y off=>match mload P t (E.acs y) off with
   | some v=>K v
   | none=>none
  | _=>none
 | .store t x v=>match mevA σ x with
  | .eptr e y off=>bif kinB (nth (e.acs y) off .bad) (mevA σ v) && (Nat.beq (sizeT P t) 1 && (P.info? t).isSome) then K .bad else none
  | _=>none
 | .binOp op _ x y _=>match mevA σ x,mevA σ y with
  | .int k a,.int k' b=>bif decide (k=k') then (match mint op k a b with
   | some v=>K v
   | none=>none) else none
  | _,_=>none
 | .call c=>match c.callee with
  | .builtin .len=>match c.args.toList.map (mevA σ),c.argTypes.toList.map P.underlying with
   | [.slc _ xs],[some (.slice _)]=>K (.int .i64 xs.length)
   | _,_=>none
  | .value (.func f)=>match c.args.toList.map (mevA σ) with
   | [.int .i64 k]=>match TextL.find X f with
    | some F=>obind (F k) fun _=>K .str
    | none=>none
   | [.slc e xs,.int .i64 k]=>match L.find f with
    | some S=>match S.E.ofAcs [] [.slc e xs] with
     | some y=>bif !S.E.isAgg && S.E.proper then obind (S.fn y k) fun n=>K (.int .i64 n) else none
     | none=>none
    | none=>none
   | [.agg E x,.int .i64 k]=>match L.find f with
    | some S=>match S.E.ofAcs [] (E.acs x) with
     | some y=>bif S.E.isAgg && E.isAgg then obind (S.fn y k) fun n=>K (.int .i64 n) else none
     | none=>none
    | none=>none
   | _=>none
  | _=>none
 | _=>none
 else none
def mput(ro:List Nat)(σ:List MV)(d:Option Nat)(v:MV):Option (List MV):=match d with
 | none=>some σ
 | some i=>bif ro.any (Nat.beq i) then none else some (setN σ i v)
def mregK(ro:List Nat):List Oper->List MV->(List MV->Option M)->Option M
 | [],σ,K=>K σ
 | o :: rest,σ,K=>mopK P L X σ o fun v=>match mput ro σ o.dst v with
  | some σ'=>mregK ro rest σ' K
  | none=>none
def mints(σ:List MV):List Nat->Option (List Int)
 | []=>some []
 | c :: cs=>match nth σ c .bad,mints σ cs with
  | .int .i64 n,some l=>some (n :: l)
  | _,_=>none
def keepS(ks:List Nat):List MV->Nat->List MV
 | [],_=>[]
 | v :: σ,i=>(bif ks.any (Nat.beq i) then v else .bad) :: keepS ks σ (i+1)
def mlay(l:List Int):List MV->List Nat->Nat->List MV
 | σ,[],_=>σ
 | σ,c :: cs,j=>mlay l (setN σ c (.int .i64 (nth l j 0))) cs (j+1)
def mdisj(cs ks:List Nat):Bool:=cs.all fun c=>!(ks.any (Nat.beq c))
def mev(N:Nat)(H:MHint):Code->Nat->List Nat->List MV->(Exit->List MV->Option M)->Option M
 | .skip,_,_,σ,K=>K .normal σ
 | .label _,_,_,σ,K=>K .normal σ
 | .region _ ops draw,_,ro,σ,K=>bif draw then none else mregK P L X ro ops.toList σ (K .normal)
 | .seq a b,_,ro,σ,K=>mev N H a 0 ro σ fun e σ'=>match e with
  | .normal=>mev N H b 0 ro σ' K
  | e=>K e σ'
 | .cond c x y,_,ro,σ,K=>match mevA σ c with
  | .bool t=>bif t then mev N H x 0 ro σ K else mev N H y 0 ro σ K
  | _=>none
 | .block id c,_,ro,σ,K=>mev N H c id ro σ fun e σ'=>match e with
  | .exit id'=>bif Nat.beq id' id then K .normal σ' else K (.exit id') σ'
  | e=>K e σ'
 | .loop c,bid,ro,σ,K=>match mhint H bid with
  | some (cs,ks)=>bif mdisj cs ks && (cs.all fun c=>!(ro.any (Nat.beq c))) && (ro.all fun c=>ks.any (Nat.beq c)) then match mints σ cs with
   | some l0=>fixN N (fun next l=>mev N H c 0 ks (mlay l (keepS ks σ 0) cs 0) fun e σ'=>match e with
    | .normal=>(match mints σ' cs with
     | some l'=>next l'
     | none=>none)
    | e=>K e σ') l0
   | none=>none
   else none
  | none=>none
 | .exit id,_,_,σ,K=>K (.exit id) σ
 | .ret,_,_,σ,K=>K .ret σ
 | _,_,_,_,_=>none
end
def mevFn(P:Program)(L:MarkL)(X:TextL)(N:Nat)(H:MHint)(E:Ty)(fn:Func)(x:E.den)(k:Int):Option Int:=match fn.body with
 | some c=>mev P L X N H c 0 [] ((match E,x with
  | .slice e,xs => .slc e xs
  | .agg t,x => .agg (.agg t) x
  | _,_ => .bad) :: .int .i64 k :: List.replicate (fn.ntmps - 2) .bad) fun e σ=>match e,fn.results.toList with
  | .normal,[.tmp t]=>(match nth σ t .bad with | .int .i64 n=>some n | _=>none)
  | .ret,[.tmp t]=>(match nth σ t .bad with | .int .i64 n=>some n | _=>none)
  | _,_=>none
 | none=>none
def MV.R(w:World)(B:Nat->Prop):MV->Value->Prop
 | .bad,_=>True
 | .int k n,V=>V = .int k n/\(Lit.int k n).wf=true
 | .bool b,V=>V = .bool b
 | .str,V=>∃ s:ByteArray,V = .string s/\s.size<=maxLen
 | .slc e xs,V=>∃ xs',(Ty.slice e).like xs xs'/\(Ty.slice e).rp w B [V] xs'
 | .agg E x,V=>∃ (us:List Value) (x':E.den),V = .agg us.toArray/\E.like x x'/\E.rp w B us x'
 | .eptr e x off,V=>∃ (b o:Nat) (us:List Value) (x':e.den),V = .pointer (some ⟨b,o+off,none⟩)/\B b/\e.like x x'/\e.rp w B us x'/\q30 w b o us
 | .box E x off,V=>∃ (b:Nat) (us:List Value) (x':E.den),V = .pointer (some ⟨b,off,none⟩)/\¬ B b/\b<w.heap.size/\E.like x x'/\E.rp w B us x'/\q30 w b 0 us
theorem MV.R.scr{w w':World}{B:Nat->Prop}(h:Scr B w w')(hs:∀ b,B b->Solid w b){v:MV}{V:Value}(hr:v.R w B V):v.R w' B V:=by
 cases v with
 | slc e xs=>
  obtain ⟨ys,h1,h2⟩:=hr;obtain ⟨zs,g1,g2⟩:=h.rp hs (.slice e) h2 (Kins.refl _);exact ⟨zs,Ty.like_trans (.slice e) h1 g1,g2⟩
 | agg E x=>
  obtain ⟨us,y,rfl,h1,h2⟩:=hr;obtain ⟨z,g1,g2⟩:=h.rp hs E h2 (Kins.refl _);exact ⟨us,z,rfl,E.like_trans h1 g1,g2⟩
 | eptr e x off=>
  obtain ⟨b,o,us,y,rfl,hb,h1,h2,h3⟩:=hr;obtain ⟨us',k1,k2⟩:=h.cells hb (hs b hb) h3;obtain ⟨z,g1,g2⟩:=h.rp hs e h2 k1;exact ⟨b,o,us',z,rfl,hb,e.like_trans h1 g1,g2,k2⟩
 | box E x off=>
  obtain ⟨b,us,y,rfl,hb,hlt,h1,h2,h3⟩:=hr;obtain ⟨z,g1,g2⟩:=h.rp hs E h2 (Kins.refl _);exact ⟨b,us,z,rfl,hb,am hlt h.low.size,E.like_trans h1 g1,g2,h3.keep (h.out b hlt hb)⟩
 | _=>exact hr
inductive LC:AC->AC->Prop
 | int (k:IntKind) (n m:Int):LC (.int k n) (.int k m)
 | bool (a b:Bool):LC (.bool a) (.bool b)
 | str (s t:ByteArray):LC (.str s) (.str t)
 | slc (e:Ty) (xs ys:List e.den) (h:(Ty.slice e).like xs ys):LC (.slc e xs) (.slc e ys)
 | ptr (e:Ty) (p q:Option e.den) (h:(Ty.ptr e).like p q):LC (.ptr e p) (.ptr e q)
 | clo (g:FuncId) (t:Ty) (x y:t.den) (h:t.like x y):LC (.clo g t x) (.clo g t y)
 | mp (e:Ty) (xs:List (Int×e.den)):LC (.mp e xs) (.mp e xs)
def LCs(cs ds:List AC):Prop:=cs.length=ds.length/\∀(i:Nat)(c d:AC),cs[i]?=some c->ds[i]?=some d->LC c d
theorem LCs.one{c d:AC}(h:LC c d):LCs [c] [d]:=⟨rfl,fun i a b ha hb=>by
 cases i with
 | zero=>simp at ha hb; subst ha hb; exact h
 | succ i=>simp at ha⟩
theorem q242:∀(E:Ty)(x y:E.den),E.like x y->LCs (E.acs x) (E.acs y)
 | .int k,_,_,_ => .one (.int k _ _)
 | .bool,_,_,_ => .one (.bool _ _)
 | .str,_,_,_ => .one (.str _ _)
 | .slice e,_,_,h => .one (.slc e _ _ h)
 | .ptr e,_,_,h => .one (.ptr e _ _ h)
 | .agg t,_,_,h=>q242 t _ _ h
 | .nil,_,_,_=>⟨rfl,fun i c d h=>by simp[Ty.acs] at h⟩
 | .pair a b,x,y,h=>by
  have h1:=q242 a x.1 y.1 h.1;have h2:=q242 b x.2 y.2 h.2;refine ⟨by simp[Ty.acs,h1.1,h2.1],fun i c d hc hd=>?_⟩;simp only[Ty.acs,bh] at hc hd;rw[<- h1.1] at hd;split at hc
  .rename_i hi; rw[ae hi] at hd; exact h1.2 i c d hc hd
  .rename_i hi; rw[a7 hi] at hd; exact h2.2 _ c d hc hd
 | .clo g t,_,_,h => .one (.clo g t _ _ h)
 | .map e,xs,_,h=>by cases (show xs=_ from h); exact .one (.mp e xs)
theorem LCs.take{cs ds:List AC}(h:LCs cs ds)(n:Nat):LCs (cs.take n) (ds.take n):=⟨by simp[h.1],fun i c d hc hd=>by
 rw[az] at hc hd;split at hc
 .rename_i hi; rw[ae hi] at hd; exact h.2 i c d hc hd
 .cases hc⟩
theorem LCs.drop{cs ds:List AC}(h:LCs cs ds)(n:Nat):LCs (cs.drop n) (ds.drop n):=⟨by simp[h.1],fun i c d hc hd=>by rw[bd] at hc hd;exact h.2 _ c d hc hd⟩
theorem LCs.sing{c:AC}{ds:List AC}(h:LCs [c] ds):∃ d,ds=[d]/\LC c d:=by
 match ds,h with
 | [d],h=>exact ⟨d,rfl,h.2 0 c d rfl rfl⟩
 | [],h=>exact absurd h.1 (by simp)
 | _ :: _ :: _,h=>exact absurd h.1 (by simp)
theorem castL_self{e:Ty}(xs:List e.den):Ty.castL (a:=e) (b:=e) xs=some xs:=by simp[Ty.castL]
theorem q692{e:Ty}(p:Option e.den):Ty.castO (a:=e) (b:=e) p=some p:=by simp[Ty.castO]
theorem q683{e:Ty}(p:e.den):Ty.castD (a:=e) (b:=e) p=some p:=by simp[Ty.castD]
theorem q339:∀(E:Ty)(cs ds:List AC)(y:E.den),LCs cs ds->E.ofAcs [] cs=some y->∃ z,E.ofAcs [] ds=some z/\E.like y z:=by
 intro E
 induction E with
 | int k=>
  intro cs ds y h hy
  replace hy:ofInt k cs=some y:=hy
  unfold ofInt at hy;split at hy
  .rename_i k' n;obtain ⟨d,rfl,hl⟩:=h.sing;cases hl;rename_i m;by_cases hk:k'=k
   .subst hk; exact ⟨m,by simp[Ty.ofAcs,ofInt],trivial⟩
   .simp[hk] at hy
  .cases hy
 | bool=>
  intro cs ds y h hy
  replace hy:ofBool cs=some y:=hy
  unfold ofBool at hy;split at hy
  .obtain ⟨d,rfl,hl⟩:=h.sing;cases hl;exact ⟨_,rfl,trivial⟩
  .cases hy
 | str=>
  intro cs ds y h hy
  replace hy:ofStr cs=some y:=hy
  unfold ofStr at hy;split at hy
  .obtain ⟨d,rfl,hl⟩:=h.sing;cases hl;exact ⟨_,rfl,trivial⟩
  .cases hy
 | slice e _=>
  intro cs ds y h hy
  replace hy:q164 [] e cs=some y:=hy
  unfold q164 at hy;split at hy
  .obtain ⟨d,rfl,hl⟩:=h.sing;cases hl;rename_i ys hlk;obtain ⟨rfl,rfl⟩:=Ty.castL_eq hy;exact ⟨ys,castL_self ys,hlk⟩
  .obtain ⟨d,rfl,hl⟩:=h.sing;cases hl
  .obtain ⟨d,rfl,hl⟩:=h.sing;cases hl
  .cases hy
 | map e _=>
  intro cs ds y h hy
  replace hy:ofMap [] e cs=some y:=hy
  unfold ofMap at hy;split at hy
  .obtain ⟨d,rfl,hl⟩:=h.sing;cases hl;obtain ⟨h1,h2⟩:=Ty.castD_eq hy;cases h1;obtain rfl:y=_:=h2;exact ⟨_,q683 (e := .map _) _,rfl⟩
  .obtain ⟨d,rfl,hl⟩:=h.sing;cases hl
  .cases hy
 | ptr e _=>
  intro cs ds y h hy
  replace hy:ofPtr [] e (fun ds=>e.ofAcs [] ds) cs=some y:=hy
  unfold ofPtr at hy;split at hy
  .obtain ⟨d,rfl,hl⟩:=h.sing;cases hl;rename_i q hlk;obtain ⟨rfl,rfl⟩:=Ty.castO_eq hy;exact ⟨q,q692 q,hlk⟩
  .obtain ⟨d,rfl,hl⟩:=h.sing;cases hl
  .obtain ⟨d,rfl,hl⟩:=h.sing;cases hl
  .obtain ⟨d,rfl,hl⟩:=h.sing;cases hl
  .cases hy
 | agg t ih=>exact fun cs ds y h hy=>ih cs ds y h hy
 | nil=>
  intro cs ds y h hy
  replace hy:ofNil cs=some y:=hy
  unfold ofNil at hy;split at hy
  .have:ds=[]:=ag h.1.symm;subst this;exact ⟨(),rfl,trivial⟩
  .cases hy
 | pair a b iha ihb=>
  intro cs ds y h hy
  replace hy:both (a.ofAcs [] (cs.take a.sz)) (b.ofAcs [] (cs.drop a.sz))=some y:=hy
  unfold both at hy;split at hy
  .rename_i u v hu hv;cases hy;obtain ⟨u',h1,h2⟩:=iha _ _ u (h.take a.sz) hu;obtain ⟨v',h3,h4⟩:=ihb _ _ v (h.drop a.sz) hv;exact ⟨(u',v'),by show both (a.ofAcs [] (ds.take a.sz)) (b.ofAcs [] (ds.drop a.sz))=_; rw[h1,h3]; rfl,h2,h4⟩
  .cases hy
 | clo g t _=>
  intro cs ds y h hy
  replace hy:ofClo g t cs=some y:=hy
  unfold ofClo at hy;split at hy
  .rename_i g' t' x;obtain ⟨d,rfl,hl⟩:=h.sing;cases hl;rename_i z hlk;obtain ⟨hg,hy⟩:=q544 hy;obtain rfl:=aU hg;obtain ⟨rfl,rfl⟩:=Ty.castD_eq hy;exact ⟨z,by simp[Ty.ofAcs,ofClo,Ty.castD],hlk⟩
  .cases hy
structure MRel (w0:World) (B:Nat->Prop) (σ:List MV) (a:Act) (w:World):Prop where
 len:σ.length=a.tmps.size
 tmp:∀(i:Nat)(v:MV)(V:Value),σ[i]?=some v->a.tmps[i]?=some V->v.R w B V
 dfs:a.defers=[]
 scr:Scr B w0 w
 sol:∀ b,B b->Solid w b
theorem MRel.step{w0:World}{B:Nat->Prop}{σ:List MV}{a:Act}{w w':World}(h:MRel w0 B σ a w)(hs:Scr B w w'):MRel w0 B σ a w':=
 ⟨h.len,fun i v V h1 h2=>(h.tmp i v V h1 h2).scr hs h.sol,h.dfs,h.scr.trans hs,fun b hb=>hs.solid hb (h.sol b hb)⟩
theorem MRel.ev{w0:World}{B:Nat->Prop}{σ:List MV}{a:Act}{w:World}(h:MRel w0 B σ a w)(x:Operand):(mevA σ x).R w B (a.eval x):=by
 cases x with
 | tmp i=>
  simp only[mevA,nth_eq,Act.eval];by_cases hi:i<σ.length
  .have h1:σ[i]?=some σ[i]:=aW hi;have h2:a.tmps[i]?=some (a.tmps[i]'(by rw[<- h.len]; exact hi)):=au _;rw[h1,al,h2];exact h.tmp i _ _ h1 h2
  .rw[aG (Nat.le_of_not_lt hi)];exact trivial
 | const v=>
  show (mvOf v).R w B v;unfold mvOf;split
  .rename_i k n;cases hw:(Lit.int k n).wf
   .exact trivial
   .exact ⟨rfl,hw⟩
  .rfl
  .exact trivial
 | _=>exact trivial
theorem MRel.put{w0:World}{B:Nat->Prop}{σ σ':List MV}{a:Act}{w:World}(h:MRel w0 B σ a w){ro:List Nat}{d:Option Nat}{v:MV}{V:Value}(hp:mput ro σ d v=some σ')(hv:v.R w B V):MRel w0 B σ' (a.put d V) w:=by
 cases d with
 | none=>cases hp; exact h
 | some n=>
  simp only[mput] at hp;cases hb:ro.any (Nat.beq n) with
  | true=>rw[hb] at hp; cases hp
  | false=>
   rw[hb] at hp;cases hp;refine ⟨by simp[Act.put,q14,h.len],fun i u U hu hU=>?_,h.dfs,h.scr,h.sol⟩;rw[getElem?_setN] at hu;simp only[Act.put,Array.getElem?_setIfInBounds] at hU;by_cases hi:i=n
   .subst hi;by_cases hlt:i<σ.length
    .rw[ae ⟨rfl,hlt⟩] at hu;rw[ae rfl,ae (by rw[<- h.len]; exact hlt)] at hU;cases hu; cases hU;exact hv
    .rw[a7 (fun h=>hlt h.2),aG (by omega)] at hu;cases hu
   .rw[a7 (fun h=>hi h.1)] at hu;rw[a7 (Ne.symm hi)] at hU;exact h.tmp i u U hu hU
def Same(ro:List Nat)(σ σ':List MV):Prop:=σ'.length=σ.length/\∀ i,ro.any (Nat.beq i)=true->σ'[i]?=σ[i]?
theorem Same.refl(ro:List Nat)(σ:List MV):Same ro σ σ:=⟨rfl,fun _ _=>rfl⟩
theorem Same.trans{ro:List Nat}{a b c:List MV}(h:Same ro a b)(k:Same ro b c):Same ro a c:=⟨k.1.trans h.1,fun i hi=>(k.2 i hi).trans (h.2 i hi)⟩
theorem q731{ro:List Nat}{σ σ':List MV}{d:Option Nat}{v:MV}(hp:mput ro σ d v=some σ'):Same ro σ σ':=by
 cases d with
 | none=>cases hp; exact Same.refl _ _
 | some n=>
  simp only[mput] at hp;cases hb:ro.any (Nat.beq n) with
  | true=>rw[hb] at hp; cases hp
  | false=>
   rw[hb] at hp;cases hp;refine ⟨q14 _ _ _,fun i hi=>?_⟩;rw[getElem?_setN,a7];rintro ⟨rfl,_⟩;rw[hb] at hi; cases hi
section
variable {M:Type} {P:Program} {L:MarkL} {X:TextL} {w0:World} {B:Nat->Prop}
def TextOk(P:Program)(f:FuncId)(F:Int->Option ByteArray):Prop:=
 ∀(w:World)(k:Int)(s:ByteArray),(Lit.int .i64 k).wf=true->F k=some s->Calls P f #[.int .i64 k] w (fun e w'=>e = .returned (.string s)/\s.size<=maxLen/\Ext w w')
theorem TextL.find_mem:∀{L:TextL}{f:FuncId}{F:Int->Option ByteArray},TextL.find L f=some F->(f,F)∈L
 | [],_,_,h=>by cases h
 | (g,s) :: r,f,S,h=>by
  unfold TextL.find at h;cases hb:Nat.beq g f with
  | true=>rw[hb] at h; cases h; rw[<- aU hb]; exact aC
  | false=>rw[hb] at h; exact aL _ (TextL.find_mem h)
theorem q633{t:TypeId}{E:Ty}{x x':E.den}{off:Nat}{v:MV}(h:mload P t (E.acs x) off=some v){w:World}{b o:Nat}{us:List Value}(hl:E.like x x')(hr:E.rp w B us x')(hc:q30 w b o us):
 ∃ V,(loadVar t ⟨b,o+off,none⟩).run P w = .ok V w/\v.R w B V:=by
 have hac:=q242 E x x' hl;have hrc:=E.acs_rc (G:=fun _=>none) hr;unfold mload at h;split at h
 .rename_i d hd;obtain ⟨l1,l2⟩:=q391 (off:=off) hd hc;cases ha:aggD d with
  | true=>
   rw[ha,cond_true] at h;split at h
   .rename_i E' _;obtain ⟨hle,h⟩:=q11 h;have hle:off+sizeT P t<=(E.acs x).length:=by simpa using hle
    split at h
    .rename_i y hy;cases h;have hsub:LCs (sub (E.acs x) off (sizeT P t)) (sub (E.acs x') off (sizeT P t)):=(hac.drop off).take _;obtain ⟨z,hz,hlz⟩:=q339 E' _ _ y hsub hy;have hrp:=Ty.ofAcs_nil hz (hrc.sub off (sizeT P t));refine ⟨_,l1 ha (by rw[<- hrc.1,<- hac.1]; exact hle),_,z,rfl,hlz,hrp⟩
    .cases h
   .cases h
  | false=>
   rw[ha,cond_false] at h;split at h
   .rename_i e xs hcell;cases h;obtain ⟨hlt,hce⟩:=q295 hcell (by simp);have hlt':off<(E.acs x').length:=by rw[<- hac.1]; exact hlt
    have hlc:=hac.2 off _ _ (aW hlt) (aW hlt');rw[hce] at hlc;have hlu:off<us.length:=by rw[<- hrc.1]; exact hlt'
    have hru:=hrc.2 off _ _ (aW hlt') (aW hlu);refine ⟨us[off],l2 ha _ (aW hlu),?_⟩;revert hru hlc;generalize (E.acs x')[off]=c';intro hlc hru;cases hlc;rename_i ys hlk;exact ⟨ys,hlk,hru⟩
   .cases h
 .cases h
theorem q851{op:BinOp}{t:TypeId}{k:IntKind}{a b:Int}{v:MV}(h:mint op k a b=some v)(ha:(Lit.int k a).wf=true)(w:World):∃ V,(binOp op t (.int k a) (.int k b)).run P w = .ok V w/\v.R w B V:=by
 unfold mint at h;split at h
 .rename_i k' n hk;cases h;obtain ⟨u,h1,h2⟩:=q250 (P:=P) t hk ha;cases h1;obtain ⟨V,h3,h4⟩:=h2 w (fun _=>True) (fun _=>none);exact ⟨V,h3,h4⟩
 .rename_i c hk;cases h;obtain ⟨u,h1,h2⟩:=q250 (P:=P) t hk ha;cases h1;obtain ⟨V,h3,h4⟩:=h2 w (fun _=>True) (fun _=>none);exact ⟨V,h3,h4⟩
 .cases h
def MSeq(P:Program)(w0:World)(B:Nat->Prop)(σ:List MV)(o:Oper)(v:MV):Prop:=
 ∀(a:Act)(w:World),MRel w0 B σ a w->Yields P o a w (fun V w'=>Scr B w w'/\v.R w' B V)
theorem q745{t:TypeId}{x y:Operand}{σ:List MV}{o:Oper}(ho:o.op = .store t x y){e:Ty}{x0:e.den}{off:Nat}(hx:mevA σ x = .eptr e x0 off)(hkin:kinB (nth (e.acs x0) off .bad) (mevA σ y)=true)(hsz:sizeT P t=1)(hi:(P.info? t).isSome=true):MSeq P w0 B σ o .bad:=by
 intro a w hR;have hxa:=hR.ev x;rw[hx] at hxa;obtain ⟨b,oo,us,x',he,hb,hl,hr,hc⟩:=hxa;obtain ⟨cur,ty,hh⟩:=hR.sol b hb;have hac:=q242 e x0 x' hl;have hrc:=e.acs_rc (G:=fun _=>none) hr;have hne:nth (e.acs x0) off .bad ≠ .bad:=fun h=>by rw[h] at hkin; cases hkin
 obtain ⟨hlt,hce⟩:=q295 (rfl:nth (e.acs x0) off .bad=nth (e.acs x0) off .bad) hne;have hlt':off<(e.acs x').length:=by rw[<- hac.1]; exact hlt
 have hlc:=hac.2 off _ _ (aW hlt) (aW hlt');have hlu:off<us.length:=by rw[<- hrc.1]; exact hlt'
 have hru:=hrc.2 off _ _ (aW hlt') (aW hlu);have hcell:=hc off us[off] (aW hlu);rw[q23 hh] at hcell;rw[hce] at hlc;have hya:=hR.ev y;have hkv:Kin us[off] (a.eval y)/\(a.eval y).oneCell'=true/\(a.eval y).cells=#[a.eval y]:=by
  revert hru hlc hkin hya;generalize us[off]=u;generalize (e.acs x')[off]=c';generalize nth (e.acs x0) off .bad=c;generalize mevA σ y=v;generalize a.eval y=V;intro hkin hlc hru hya;cases hlc with
  | int k n m=>
   cases v with
   | int k' n'=>
    have hk:k=k':=by simpa [kinB] using hkin
    subst hk;obtain ⟨rfl,_⟩:=hru;obtain ⟨rfl,hw⟩:=hya;exact ⟨.inr (.inl ⟨_,_,_,rfl,rfl,hw⟩),rfl,rfl⟩
   | _=>simp[kinB] at hkin
  | bool p q=>
   cases v with
   | bool c=>
    obtain rfl:u=_:=hru;obtain rfl:V=_:=hya;exact ⟨.inr (.inr (.inl ⟨_,_,rfl,rfl⟩)),rfl,rfl⟩
   | _=>simp[kinB] at hkin
  | str s t=>
   cases v with
   | str=>
    obtain ⟨rfl,_⟩:=hru;obtain ⟨s',rfl,hs⟩:=hya;exact ⟨.inr (.inr (.inr ⟨_,_,rfl,rfl,hs⟩)),rfl,rfl⟩
   | _=>simp[kinB] at hkin
  | _=>simp[kinB] at hkin
 obtain ⟨hkk,h1,hcs⟩:=hkv;have hlt2:oo+off<cur.size:=(aw.1 hcell).1;have hrun:=q116 (P:=P) (t:=t) (off:=oo+off) (v:=a.eval y) hi hh (by rw[hcs,hsz]; rfl) (by rw[hcs]; simp; omega) (by rw[hcs]; simpa using h1);refine .skip (w':=w.setRow b (putN cur.toList (oo+off) (a.eval y).cells.toList).toArray) (by simp[execOp,ho,he,Instr.storeAt,Instr.sureAddr,hrun]) ⟨⟨⟨rfl,rfl,rfl,by simp,fun k hk=>absurd hk (by simp)⟩,fun k _ hk=>setRow_other w b k _ (fun e=>hk (by rw[e]; exact hb)),fun k cur' t' hk hh'=>?_⟩,trivial⟩;by_cases hkb:k=b
 .subst hkb;rw[hh] at hh';cases hh';refine ⟨_,setRow_heap w k cur _ ty _ hh,by simp[q65],fun j u hu=>?_⟩;simp only[List.getElem?_toArray];rw[getElem?_putN,hcs];by_cases hj:j=oo+off
  .subst hj;rw[ae ⟨ab _,by simp,by simpa using hlt2⟩];rw[hcell] at hu;cases hu;exact ⟨_,by simp,hkk⟩
  .rw[a7 (by simp; omega)];exact ⟨u,by simpa using hu,.refl u⟩
 .exact ⟨cur',by rw[setRow_other w b k _ hkb]; exact hh',rfl,fun j u hu=>⟨u,hu,.refl u⟩⟩
theorem mop_ok(hL:∀ p∈L,MarkOk P p.1 p.2/\q13 P p.1)(hX:∀ p∈X,TextOk P p.1 p.2/\q13 P p.1){σ:List MV}{o:Oper}{K:MV->Option M}{r:M}(hK:mopK P L X σ o K=some r):
 o.guard=none/\∃ v,K v=some r/\MSeq P w0 B σ o v:=by
 unfold mopK at hK;obtain ⟨hg,hK⟩:=q11 hK;have hg:o.guard=none:=by simpa using hg
 refine ⟨hg,?_⟩;have same:∀{v:MV}{V:Act->Value},(∀(a:Act)(w:World),MRel w0 B σ a w->(execOp a.eval o).run P w = .ok (.value (V a)) w/\v.R w B (V a))->MSeq P w0 B σ o v:=fun h a w hR=>
  .value (h a w hR).1 ⟨Scr.refl _ _,(h a w hR).2⟩
 have call:∀(f:FuncId)(args:Array Operand)(ts:Array TypeId),o.op = .call { callee := .value (.func f),args:=args,argTypes:=ts }->q13 P f->∀(a:Act)(w:World),(execOp a.eval o).run P w = .ok (.enter f (args.map a.eval)) w:=by
  rintro f args ts ho ⟨fn,hfn,hbody,hname⟩ a w;simp only[execOp,ho,resolve,Act.eval,Deferred.ofValue]
  have hname' : fn.name ≠ "runtime.NumGoroutine" := by simpa using hname
  have hbody':fn.body≠none:=by intro h; simp[h] at hbody
  simp[invoke,callFunc,hfn,hbody',hname']
 split at hK
 .rename_i x ho;exact ⟨_,hK,same fun a w hR=>⟨by simp[execOp,ho],hR.ev x⟩⟩
 .rename_i x ho;exact ⟨_,hK,same fun a w hR=>⟨by simp[execOp,ho],hR.ev x⟩⟩
 .rename_i t x ho;split at hK
  .rename_i E y hx;obtain ⟨hag,hK⟩:=q11 hK;refine ⟨_,hK,fun a w hR=>?_⟩;have hxa:=hR.ev x;rw[hx] at hxa;obtain ⟨us,y',he,hl,hr⟩:=hxa;have hext:Ext w (w.alloc (.cells (a.eval x).cells t)):=q104 _ _;have hscr:=Scr.of_ext (B:=B) hext;refine .value (V := .pointer (some ⟨w.heap.size,0,none⟩)) (w':=w.alloc (.cells (a.eval x).cells t)) (by simp[execOp,ho,Instr.box,newVar,newRow]) ⟨hscr,?_⟩;obtain ⟨z,g1,g2⟩:=hscr.rp hR.sol E hr (Kins.refl _);refine ⟨w.heap.size,us,z,rfl,fun hB=>?_,by simp,E.like_trans hl g1,g2,fun j u hj=>?_⟩
   .obtain ⟨cur,ty,hc⟩:=hR.sol _ hB;have:=(aw.1 hc).1;omega
   .rw[q23 (heap_alloc_new w _),Nat.zero_add,he];simpa [Value.cells] using hj
  .cases hK
 .rename_i s x f ho;split at hK
  .rename_i fo ft e y off hf hx;obtain ⟨hz,hK⟩:=q11 hK;refine ⟨_,hK,fun a w hR=>?_⟩;have hxa:=hR.ev x;rw[hx] at hxa;obtain ⟨b,oo,us,x',he,hb,hl,hr,hc⟩:=hxa;exact .value (V := .pointer (some ⟨b,oo+off+fo,none⟩)) (w':=w) (by simp[execOp,ho,he,q89 hf hz]) ⟨Scr.refl _ _,b,oo,us,x',by rw[Nat.add_assoc],hb,hl,hr,hc⟩
  .rename_i fo ft e y off hf hx;obtain ⟨hz,hK⟩:=q11 hK;refine ⟨_,hK,fun a w hR=>?_⟩;have hxa:=hR.ev x;rw[hx] at hxa;obtain ⟨b,us,x',he,hb,hlt,hl,hr,hc⟩:=hxa;exact .value (V := .pointer (some ⟨b,off+fo,none⟩)) (w':=w) (by simp[execOp,ho,he,q89 hf hz]) ⟨Scr.refl _ _,b,us,x',rfl,hb,hlt,hl,hr,hc⟩
  .cases hK
 .rename_i t x ix ho;split at hK
  .rename_i e xs k i hx hix;obtain ⟨hok,hK⟩:=q11 hK;obtain ⟨y,hy,hK⟩:=q17 hK;unfold atI at hy;obtain ⟨h0,hy⟩:=q11 hy;have h0:0<=i:=by simpa using h0
   obtain ⟨hlt,rfl⟩:=aQ.1 hy;refine ⟨_,hK,fun a w hR=>?_⟩;have hxa:=hR.ev x;have hia:=hR.ev ix;rw[hx] at hxa;rw[hix] at hia;have hie:a.eval ix=_:=hia.1;obtain ⟨ys,hl,A,cap,he,h1,h2,h3⟩:=hxa;have he:a.eval x=_:=bc.1 he;have hlt':i.toNat<ys.length:=by rw[<- hl.1]; exact hlt
   obtain ⟨b,oo,rfl,hb,hc⟩:=h3 (by omega);obtain ⟨us,hr,hcs⟩:=hc _ hlt';exact .value (V := .pointer (some ⟨b,oo+i.toNat * e.sz,none⟩)) (w':=w) (by simp only[execOp,ho,he,hie]; rw[Sem.run_bind,q118 hok h0 hlt']; rfl) ⟨Scr.refl _ _,b,oo+i.toNat * e.sz,us,_,rfl,hb,hl.2 _ hlt hlt',hr,hcs⟩
  .cases hK
 .rename_i t x ho;split at hK
  .rename_i e y off hx;split at hK
   .rename_i v hv;refine ⟨_,hK,fun a w hR=>?_⟩;have hxa:=hR.ev x;rw[hx] at hxa;obtain ⟨b,oo,us,x',he,hb,hl,hr,hc⟩:=hxa;obtain ⟨V,h1,h2⟩:=q633 hv hl hr hc;exact .value (V:=V) (w':=w) (by simp[execOp,ho,he,Instr.loadAt,Instr.sureAddr,h1]) ⟨Scr.refl _ _,h2⟩
   .cases hK
  .rename_i e y off hx;split at hK
   .rename_i v hv;refine ⟨_,hK,fun a w hR=>?_⟩;have hxa:=hR.ev x;rw[hx] at hxa;obtain ⟨b,us,x',he,hb,hlt,hl,hr,hc⟩:=hxa;obtain ⟨V,h1,h2⟩:=q633 hv hl hr hc;rw[Nat.zero_add] at h1;exact .value (V:=V) (w':=w) (by simp[execOp,ho,he,Instr.loadAt,Instr.sureAddr,h1]) ⟨Scr.refl _ _,h2⟩
   .cases hK
  .cases hK
 .rename_i t x y ho;split at hK
  .rename_i e x0 off hx;obtain ⟨hb,hK⟩:=q11 hK;simp only[aT] at hb;exact ⟨_,hK,q745 ho hx hb.1 (aU hb.2.1) hb.2.2⟩
  .cases hK
 .rename_i op t x y t' ho;split at hK
  .rename_i k a0 k' b0 hx hy;obtain ⟨hk,hK2⟩:=q11 hK;clear hK;obtain rfl:k=k':=by simpa using hk
   split at hK2
   .rename_i v hv;refine ⟨_,hK2,fun a w hR=>?_⟩;have hxa:=hR.ev x;have hya:=hR.ev y;rw[hx] at hxa;rw[hy] at hya;obtain ⟨hxe,hxw⟩:=hxa;obtain ⟨hye,hyw⟩:=hya;obtain ⟨V,h1,h2⟩:=q851 (P:=P) (B:=B) (t:=t) hv hxw w;exact .value (V:=V) (w':=w) (by simp[execOp,ho,hxe,hye,h1,eqGuard]) ⟨Scr.refl _ _,h2⟩
   .cases hK2
  .cases hK
 .rename_i c ho;obtain ⟨callee,args,ts⟩:=c;split at hK
  .rename_i hcal;obtain rfl:callee=_:=hcal;split at hK
   .rename_i e xs et ha ht;obtain ⟨x,hargs,hx⟩:∃ x,args=#[x]/\mevA σ x = .slc e xs:=by
     match hc:args.toList,ha with
     | [x],h=>simp[hc] at h; exact ⟨x,by cases args; simp_all,h⟩
     | [],h=>simp[hc] at h
     | _ :: _ :: _,h=>simp[hc] at h
    obtain ⟨t,hts,hu⟩:∃ t,ts=#[t]/\P.underlying t=some (.slice et):=by
     match hc:ts.toList,ht with
     | [t],h=>simp[hc] at h; exact ⟨t,by cases ts; simp_all,h⟩
     | [],h=>simp[hc] at h
     | _ :: _ :: _,h=>simp[hc] at h
    subst hargs hts;refine ⟨_,hK,fun a w hR=>?_⟩;have hxa:=hR.ev x;rw[hx] at hxa;obtain ⟨ys,hl,A,cap,he,h1,h2,_⟩:=hxa;have he:a.eval x=_:=bc.1 he;have hlen:xs.length=ys.length:=hl.1;exact .value (V := .int .i64 xs.length) (w':=w) (by rw[q22 ho]; simp[builtin,Builtin.len_,he,run_underlying hu,goInt,hlen]) ⟨Scr.refl _ _,rfl,wf_len (by omega)⟩
   .cases hK
  .rename_i f hcal;obtain rfl:callee=_:=hcal;split at hK
   .rename_i k ha;obtain ⟨x,hargs,hx⟩:∃ x,args=#[x]/\mevA σ x = .int .i64 k:=by
     match hc:args.toList,ha with
     | [x],h=>simp[hc] at h; exact ⟨x,by cases args; simp_all,h⟩
     | [],h=>simp[hc] at h
     | _ :: _ :: _,h=>simp[hc] at h
    subst hargs;split at hK
    .rename_i F hF;obtain ⟨s,hs,hK⟩:=q17 hK;obtain ⟨htx,hcb⟩:=hX _ (TextL.find_mem hF);refine ⟨_,hK,fun a w hR=>?_⟩;have hxa:=hR.ev x;rw[hx] at hxa;obtain ⟨he,hw⟩:=hxa;refine .enter (call f _ ts ho hcb a w) ?_;have:=htx w k s hw hs;simp only[List.map_toArray,List.map_cons,List.map_nil,he];exact this.mono fun e w' ⟨h1,h2,h3⟩=>⟨_,h1,Scr.of_ext h3,s,rfl,h2⟩
    .cases hK
   .rename_i e xs k ha;obtain ⟨x,y,hargs,hx,hy⟩:∃ x y,args=#[x,y]/\mevA σ x = .slc e xs/\mevA σ y = .int .i64 k:=by
     match hc:args.toList,ha with
     | [x,y],h=>simp[hc] at h; exact ⟨x,y,by cases args; simp_all,h⟩
     | [],h=>simp[hc] at h
     | [_],h=>simp[hc] at h
     | _ :: _ :: _ :: _,h=>simp[hc] at h
    subst hargs;split at hK
    .rename_i S hS;obtain ⟨hM,hcb⟩:=hL _ (MarkL.find_mem hS);split at hK
     .rename_i y0 hy0;obtain ⟨hag,hK⟩:=q11 hK;simp only[aT,bb] at hag;obtain ⟨n,hn,hK⟩:=q17 hK;refine ⟨_,hK,fun a w hR=>?_⟩;have hxa:=hR.ev x;have hya:=hR.ev y;rw[hx] at hxa;rw[hy] at hya;obtain ⟨hye,hyw⟩:=hya;obtain ⟨ys,hl,hr⟩:=hxa;obtain ⟨z,hz,hlz⟩:=q339 S.E _ _ y0 (.one (.slc e xs ys hl)) hy0;have hrp:S.E.rp w B [a.eval x] z:=Ty.ofAcs_nil (G:=fun _=>none) hz (RCs.cons hr RCs.nil);refine .enter (call f _ ts ho hcb a w) ?_;have:=hM w [a.eval x] y0 z k n B hR.sol hlz hrp hyw hn;simp only[List.map_toArray,List.map_cons,List.map_nil,hye];rw[show pack1 S.E [a.eval x]=a.eval x by simp[pack1,hag.1]] at this;exact this.mono fun e w' ⟨h1,h2,h3⟩=>⟨_,h1,h3,rfl,h2⟩
     .cases hK
    .cases hK
   .rename_i E xs k ha;obtain ⟨x,y,hargs,hx,hy⟩:∃ x y,args=#[x,y]/\mevA σ x = .agg E xs/\mevA σ y = .int .i64 k:=by
     match hc:args.toList,ha with
     | [x,y],h=>simp[hc] at h; exact ⟨x,y,by cases args; simp_all,h⟩
     | [],h=>simp[hc] at h
     | [_],h=>simp[hc] at h
     | _ :: _ :: _ :: _,h=>simp[hc] at h
    subst hargs;split at hK
    .rename_i S hS;obtain ⟨hM,hcb⟩:=hL _ (MarkL.find_mem hS);split at hK
     .rename_i y0 hy0;obtain ⟨hag,hK⟩:=q11 hK;simp only[aT] at hag;obtain ⟨n,hn,hK⟩:=q17 hK;refine ⟨_,hK,fun a w hR=>?_⟩;have hxa:=hR.ev x;have hya:=hR.ev y;rw[hx] at hxa;rw[hy] at hya;obtain ⟨hye,hyw⟩:=hya;obtain ⟨us,x',hxe,hl,hr⟩:=hxa;obtain ⟨z,hz,hlz⟩:=q339 S.E _ _ y0 (q242 E xs x' hl) hy0;have hrp:S.E.rp w B us z:=Ty.ofAcs_nil (G:=fun _=>none) hz (E.acs_rc hr);refine .enter (call f _ ts ho hcb a w) ?_;have:=hM w us y0 z k n B hR.sol hlz hrp hyw hn;simp only[List.map_toArray,List.map_cons,List.map_nil,hye,hxe];rw[show pack1 S.E us = .agg us.toArray by simp[pack1,hag.1]] at this;exact this.mono fun e w' ⟨h1,h2,h3⟩=>⟨_,h1,h3,rfl,h2⟩
     .cases hK
    .cases hK
   .cases hK
  .cases hK
 .cases hK
theorem q776(hL:∀ p∈L,MarkOk P p.1 p.2/\q13 P p.1)(hX:∀ p∈X,TextOk P p.1 p.2/\q13 P p.1)(ops:Array Oper)(ro:List Nat):∀(l:List Oper)(i:Nat)(σ:List MV)(K:List MV->Option M)(r:M),(∀ k,l[k]?=ops[i+k]?)->mregK P L X ro l σ K=some r->
 ∃ σ',K σ'=some r/\Same ro σ σ'/\∀(a:Act)(w:World)(Q:Exit->Act->World->Prop),MRel w0 B σ a w->(∀ a' w',MRel w0 B σ' a' w'->Q .normal a' w')->wpOps P ops Q (List.range' i l.length) a w
 | [],i,σ,K,r,_,h=>⟨σ,h,Same.refl _ _,fun a w Q hR hQ=>hQ a w hR⟩
 | o :: l,i,σ,K,r,hl,h=>by
  have ho:ops[i]?=some o:=by have:=hl 0; simpa using this.symm
  have hl':∀ k,l[k]?=ops[i+1+k]?:=fun k=>by have:=hl (k+1); simpa [Nat.add_assoc,Nat.add_comm 1 k] using this
  obtain ⟨hg,v,h1,h2⟩:=mop_ok (w0:=w0) (B:=B) hL hX h;split at h1
  .rename_i σ1 hp;obtain ⟨σ',g1,g2,g3⟩:=q776 hL hX ops ro l (i+1) σ1 K r hl' h1;refine ⟨σ',g1,(q731 hp).trans g2,fun a w Q hR hQ=>?_⟩;simp only[aF,List.range'_succ,wpOps,ho];rw[ae (by simp[Region.wanted,hg])];exact .inl (h2 a w hR _ Q fun V w' ⟨hs,hV⟩=>g3 _ w' Q ((hR.step hs).put hp hV) hQ)
  .cases h1
def MGoes(P:Program)(w0:World)(B:Nat->Prop)(c:Code)(σ:List MV)(e:Exit)(σ':List MV):Prop:=
 ∀(a:Act)(w:World)(Q:Exit->Act->World->Prop),MRel w0 B σ a w->(∀ a' w',MRel w0 B σ' a' w'->Q e a' w')->c.wp P Q a w
theorem q417(ks:List Nat):∀(σ:List MV)(k i:Nat),(keepS ks σ k)[i]?=(σ[i]?).map fun v=>bif ks.any (Nat.beq (k+i)) then v else .bad
 | [],k,i=>by simp[keepS]
 | v :: σ,k,0=>by simp[keepS]
 | v :: σ,k,i+1=>by simp only[keepS,List.getElem?_cons_succ]; rw[q417 ks σ (k+1) i,show k+1+i=k+(i+1) by omega]
theorem q315(ks:List Nat):∀(σ:List MV)(k:Nat),(keepS ks σ k).length=σ.length
 | [],_=>rfl
 | _ :: σ,k=>by simp[keepS,q315 ks σ (k+1)]
theorem q652(l:List Int):∀(cs:List Nat)(j:Nat)(σ:List MV),(mlay l σ cs j).length=σ.length
 | [],j,σ=>rfl
 | c :: cs,j,σ=>by rw[mlay,q652 l cs,q14]
theorem q451(l:List Int):∀(cs:List Nat)(j:Nat)(σ:List MV)(i:Nat),i∉cs->(mlay l σ cs j)[i]?=σ[i]?
 | [],j,σ,i,_=>rfl
 | c :: cs,j,σ,i,h=>by rw[mlay,q451 l cs _ _ i (fun e=>h (by simp[e])),getElem?_setN,a7 (fun e=>h (by simp[e.1]))]
theorem q340{σ:List MV}:∀(cs:List Nat)(l:List Int),mints σ cs=some l->∀(i c:Nat),cs[i]?=some c->nth σ c .bad = .int .i64 (nth l i 0)
 | [],l,h,i,c,hc=>by simp at hc
 | c0 :: cs,l,h,i,c,hc=>by
  unfold mints at h;split at h
  .rename_i n l' hn hl';cases h;cases i with
   | zero=>simp at hc; subst hc; exact hn
   | succ i=>exact q340 cs l' hl' i c (by simpa using hc)
  .cases h
theorem q490{σ:List MV}{a:Act}{w:World}{l:List Int}(hR:MRel w0 B σ a w):∀(cs:List Nat)(j:Nat)(E:List MV),(∀(i c:Nat),cs[i]?=some c->nth σ c .bad = .int .i64 (nth l (j+i) 0))->E.length=σ.length->(∀(i:Nat)(v:MV),E[i]?=some v->v = .bad\/σ[i]?=some v)->MRel w0 B (mlay l E cs j) a w
 | [],j,E,h,hl,ht=>by
  refine ⟨hl.trans hR.len,fun i v V hv hV=>?_,hR.dfs,hR.scr,hR.sol⟩;rcases ht i v hv with rfl | h1
  .exact trivial
  .exact hR.tmp i v V h1 hV
 | c :: cs,j,E,h,hl,ht=>by
  refine q490 hR cs (j+1) _ (fun i c' hc=>by rw[show j+1+i=j+(i+1) by omega]; exact h (i+1) c' (by simpa using hc)) (by rw[q14]; exact hl) fun i v hv=>?_;rw[getElem?_setN] at hv;split at hv
  .rename_i hi;cases hv;obtain ⟨hlt,hc⟩:=q295 (h 0 c rfl) (by simp);rw[hi.1];exact .inr (by rw[aW hlt,hc]; rfl)
  .exact ht i v hv
theorem mev_ok(hL:∀ p∈L,MarkOk P p.1 p.2/\q13 P p.1)(hX:∀ p∈X,TextOk P p.1 p.2/\q13 P p.1){N:Nat}{H:MHint}:∀(c:Code)(bid:Nat)(ro:List Nat)(σ:List MV)(K:Exit->List MV->Option M)(r:M),mev P L X N H c bid ro σ K=some r->
 ∃ e σ',K e σ'=some r/\Same ro σ σ'/\MGoes P w0 B c σ e σ':=by
 intro c
 induction c with
 | skip=>exact fun bid ro σ K r h=>⟨.normal,σ,h,Same.refl _ σ,fun a w Q hR hQ=>wp_skip (hQ a w hR)⟩
 | label l=>exact fun bid ro σ K r h=>⟨.normal,σ,h,Same.refl _ σ,fun a w Q hR hQ=>wp_label (hQ a w hR)⟩
 | exit id=>exact fun bid ro σ K r h=>⟨.exit id,σ,h,Same.refl _ σ,fun a w Q hR hQ=>wp_exit (hQ a w hR)⟩
 | ret=>exact fun bid ro σ K r h=>⟨.ret,σ,h,Same.refl _ σ,fun a w Q hR hQ=>wp_ret (hQ a w hR)⟩
 | region id ops draw=>
  intro bid ro σ K r h;cases draw with
  | true=>cases h
  | false=>
   obtain ⟨σ',g1,g2,g3⟩:=q776 (w0:=w0) (B:=B) hL hX ops ro ops.toList 0 σ (K .normal) r (fun k=>by simp) h;refine ⟨.normal,σ',g1,g2,fun a w Q hR hQ=>wp_region ?_⟩;have:=g3 a w Q hR hQ;rw[List.range_eq_range'];simpa using this
 | seq x y ihx ihy=>
  intro bid ro σ K r h;obtain ⟨e,σ1,h1,h2,h3⟩:=ihx 0 ro σ _ r h;by_cases he:e = .normal
  .subst he;obtain ⟨e2,σ2,g1,g2,g3⟩:=ihy 0 ro σ1 K r h1;exact ⟨e2,σ2,g1,h2.trans g2,fun a w Q hR hQ=>wp_seq (h3 a w _ hR fun a' w' hR'=>g3 a' w' Q hR' hQ)⟩
  .have h4:K e σ1=some r:=by cases e <;> first | exact absurd rfl he | exact h1
   refine ⟨e,σ1,h4,h2,fun a w Q hR hQ=>wp_seq (h3 a w _ hR fun a' w' hR'=>?_)⟩;have:=hQ a' w' hR';cases e <;> first | exact absurd rfl he | exact this
 | cond x t f iht ihf=>
  intro bid ro σ K r h;simp only[mev] at h;split at h
  .rename_i b hb;have hev:∀(a:Act)(w:World),MRel w0 B σ a w->a.eval x = .bool b:=fun a w hR=>by have:=hR.ev x;rw[hb] at this;exact this
   cases b with
   | true=>
    obtain ⟨e,σ',h1,h2,h3⟩:=iht 0 ro σ K r h;exact ⟨e,σ',h1,h2,fun a w Q hR hQ=>wp_cond (hev a w hR) (h3 a w Q hR hQ)⟩
   | false=>
    obtain ⟨e,σ',h1,h2,h3⟩:=ihf 0 ro σ K r h;exact ⟨e,σ',h1,h2,fun a w Q hR hQ=>wp_cond (hev a w hR) (h3 a w Q hR hQ)⟩
  .cases h
 | block id c ih=>
  intro bid ro σ K r h;obtain ⟨e,σ',h1,h2,h3⟩:=ih id ro σ _ r h;by_cases he:e = .exit id
  .subst he;simp only[aN,cond_true] at h1;exact ⟨.normal,σ',h1,h2,fun a w Q hR hQ=>wp_block (h3 a w _ hR fun a' w' hR'=>by simp only[Exit.inBlock,if_true]; exact hQ a' w' hR')⟩
  .have h4:K e σ'=some r:=by
    cases e with
    | exit id'=>
     have:Nat.beq id' id=false:=by
      cases hb:Nat.beq id' id
      .rfl
      .exact absurd (by rw[aU hb]) he
     simpa only [this,cond_false] using h1
    | _=>exact h1
   refine ⟨e,σ',h4,h2,fun a w Q hR hQ=>wp_block (h3 a w _ hR fun a' w' hR'=>?_)⟩;have:=hQ a' w' hR';cases e with
   | exit id'=>simp only[Exit.inBlock]; rw[a7 (fun h=>he (by rw[h]))]; exact this
   | _=>exact this
 | loop c ih=>
  intro bid ro σ K r h;simp only[mev] at h;split at h
  case h_2=>cases h
  rename_i cs ks _;obtain ⟨hb,h⟩:=q11 h;simp only[aT] at hb;obtain ⟨⟨hdis,hcro⟩,hro⟩:=hb;split at h
  case h_2=>cases h
  rename_i l0 hl0;have hcs:∀ i,ks.any (Nat.beq i)=true->i∉cs:=fun i hi hm=>by have:=ao.1 hdis i hm;rw[hi] at this; cases this
  have head:∀(σ':List MV),σ'.length=σ.length->(∀ i,ks.any (Nat.beq i)=true->σ'[i]?=σ[i]?)->∀(i:Nat)(v:MV),(keepS ks σ 0)[i]?=some v->v = .bad\/σ'[i]?=some v:=fun σ' _ hk i v hv=>by
   rw[q417,Nat.zero_add] at hv;obtain ⟨u,hu,rfl⟩:=aa.1 hv;cases hb:ks.any (Nat.beq i) with
   | true=>exact .inr (by rw[hk i hb,hu]; rfl)
   | false=>exact .inl rfl
  have rounds:∀(n:Nat)(l:List Int)(r:M),fixN n (fun next l=>mev P L X N H c 0 ks (mlay l (keepS ks σ 0) cs 0) fun e σ'=>match e with
   | .normal=>(match mints σ' cs with
    | some l'=>next l'
    | none=>none)
   | e=>K e σ') l=some r->
   ∃ e σ',K e σ'=some r/\σ'.length=σ.length/\(∀ i,ks.any (Nat.beq i)=true->σ'[i]?=σ[i]?)/\∀(a:Act)(w:World)(Q:Exit->Act->World->Prop),MRel w0 B (mlay l (keepS ks σ 0) cs 0) a w->(∀ a' w',MRel w0 B σ' a' w'->Q e a' w')->Code.rounds P c Q n a w:=by
   intro n
   induction n with
   | zero=>intro l r h; cases h
   | succ n ihn=>
    intro l r h;unfold fixN at h;obtain ⟨e,σ',h1,h2,h3⟩:=ih 0 ks _ _ r h;have hlen:σ'.length=σ.length:=by rw[h2.1,q652,q315]
    have hsame:∀ i,ks.any (Nat.beq i)=true->σ'[i]?=σ[i]?:=fun i hi=>by rw[h2.2 i hi,q451 l cs _ _ i (hcs i hi),q417,Nat.zero_add,hi];cases σ[i]? <;> rfl
    by_cases he:e = .normal
    .subst he;dsimp only at h1;split at h1
     .rename_i l' hl';obtain ⟨e2,σ2,g1,g2,g3,g4⟩:=ihn l' r h1;refine ⟨e2,σ2,g1,g2,g3,fun a w Q hR hQ=>?_⟩;rw[rounds_succ];refine h3 a w _ hR fun a' w' hR'=>?_;exact g4 a' w' Q (q490 hR' cs 0 _ (fun i c hc=>by rw[Nat.zero_add]; exact q340 cs l' hl' i c hc) (by rw[q315,hlen]) (head σ' hlen hsame)) hQ
     .cases h1
    .have h4:K e σ'=some r:=by cases e <;> first | exact absurd rfl he | exact h1
     refine ⟨e,σ',h4,hlen,hsame,fun a w Q hR hQ=>?_⟩;rw[rounds_succ];refine h3 a w _ hR fun a' w' hR'=>?_;have:=hQ a' w' hR';cases e <;> first | exact absurd rfl he | exact this
  obtain ⟨e,σ',g1,g2,g3,g4⟩:=rounds N l0 r h;refine ⟨e,σ',g1,⟨g2,fun i hi=>?_⟩,fun a w Q hR hQ=>wp_loop_rounds N (g4 a w Q (q490 hR cs 0 _ (fun i c hc=>by rw[Nat.zero_add]; exact q340 cs l0 hl0 i c hc) (q315 _ _ _) (head σ rfl fun _ _=>rfl)) hQ)⟩;refine g3 i ?_;obtain ⟨c',hc',he'⟩:=List.any_eq_true.1 hi;have:=ao.1 hro c' hc';rw[aU he'];exact this
 | _=>intro bid ro σ K r h; cases h
theorem q44(hL:∀ p∈L,MarkOk P p.1 p.2/\q13 P p.1)(hX:∀ p∈X,TextOk P p.1 p.2/\q13 P p.1){f:FuncId}{fn:Func}{N:Nat}{H:MHint}{S:MSpec}(hf:P.funcs[f]?=some fn)
 (h:∀ x k n,S.fn x k=some n->mevFn P L X N H S.E fn x k=some n):MarkOk P f S:=by
 intro w cs x x' k n B hsol hlike hrp hkw hn;have h1:=h x k n hn;unfold mevFn at h1;split at h1
 case h_2=>cases h1
 rename_i c hc;obtain ⟨e,σ',g1,g2,g3⟩:=mev_ok (w0:=w) (B:=B) hL hX c 0 [] _ _ n h1;have fin:∃ t,fn.results.toList=[.tmp t]/\nth σ' t .bad = .int .i64 n/\(e = .normal\/e = .ret):=by
  split at g1
  .rename_i t hres;split at g1
   .rename_i m hm; cases g1; exact ⟨t,hres,hm,.inl rfl⟩
   .cases g1
  .rename_i t hres;split at g1
   .rename_i m hm; cases g1; exact ⟨t,hres,hm,.inr rfl⟩
   .cases g1
  .cases g1
 obtain ⟨t,hres,hnt,he⟩:=fin;refine calls_of_wp hf hc ?_
 have hV:(match S.E,x with
  | .slice e,xs=>MV.slc e xs
  | .agg t,x => .agg (.agg t) x
  | _,_ => .bad).R w B (pack1 S.E cs):=by
  obtain ⟨E,F⟩:=S;cases E with
  | slice e=>
   have hl:=Ty.rp_len _ hrp
   match cs,hl,hrp with
   | [v],_,hrp=>exact ⟨x',hlike,hrp⟩
  | agg t=>exact ⟨cs,x',rfl,hlike,hrp⟩
  | _=>exact trivial
 have hR:MRel w B ((match S.E,x with
  | .slice e,xs => .slc e xs
  | .agg t,x => .agg (.agg t) x
  | _,_ => .bad) :: .int .i64 k :: List.replicate (fn.ntmps - 2) .bad) { tmps:=#[pack1 S.E cs,.int .i64 k]++Array.replicate (fn.ntmps - (#[pack1 S.E cs,.int .i64 k]:Array Value).size) undef,defers:=[] } w:=by
  refine ⟨by simp; omega,fun i v V hv hV'=>?_,rfl,Scr.refl _ _,hsol⟩
  match i with
  | 0=>
   replace hV':(#[pack1 S.E cs,.int .i64 k]++Array.replicate (fn.ntmps - 2) undef:Array Value)[0]?=some V:=hV'
   rw[Array.getElem?_append_left (by simp)] at hV';simp at hv hV'; subst hv hV'; exact hV
  | 1=>
   replace hV':(#[pack1 S.E cs,.int .i64 k]++Array.replicate (fn.ntmps - 2) undef:Array Value)[1]?=some V:=hV'
   rw[Array.getElem?_append_left (by simp)] at hV';simp at hv hV'; subst hv hV'; exact ⟨rfl,hkw⟩
  | i+2=>
   simp only[List.getElem?_cons_succ,bL] at hv;split at hv
   .cases hv; exact trivial
   .cases hv
 refine g3 _ w _ hR fun a' w' hR'=>?_;obtain ⟨hlt,ht⟩:=q295 hnt (by simp);have hlt':t<a'.tmps.size:=by rw[<- hR'.len]; exact hlt
 have hv:=hR'.tmp t _ _ (aW hlt) (au hlt');rw[ht] at hv;obtain ⟨hv1,hv2⟩:=hv;have hrun:(results fn a'.tmps).run P w' = .ok (.int .i64 n) w':=by have:=q223 (P:=P) fn a'.tmps w' [.int .i64 n] (by rw[hres]; simp[resF,hlt',hv1]);exact this
 rcases he with rfl | rfl
 .exact ⟨hR'.dfs,_,hrun,rfl,hv2,hR'.scr⟩
 .exact ⟨hR'.dfs,_,hrun,rfl,hv2,hR'.scr⟩
theorem q59:∀ p∈([]:MarkL),MarkOk P p.1 p.2/\q13 P p.1:=fun p h=>by cases h
theorem q42{f:FuncId}{S:MSpec}{L:MarkL}(h:MarkOk P f S)(hk:q13 P f)(hL:∀ p∈L,MarkOk P p.1 p.2/\q13 P p.1):∀ p∈((f,S) :: L:MarkL),MarkOk P p.1 p.2/\q13 P p.1:=by
 intro p hp;rcases ay.1 hp with rfl | hp
 .exact ⟨h,hk⟩
 .exact hL p hp
theorem q72:∀ p∈([]:TextL),TextOk P p.1 p.2/\q13 P p.1:=fun p h=>by cases h
theorem q180{f:FuncId}{F:Int->Option ByteArray}{L:TextL}(h:TextOk P f F)(hk:q13 P f)(hL:∀ p∈L,TextOk P p.1 p.2/\q13 P p.1):∀ p∈((f,F) :: L:TextL),TextOk P p.1 p.2/\q13 P p.1:=by
 intro p hp;rcases ay.1 hp with rfl | hp
 .exact ⟨h,hk⟩
 .exact hL p hp
theorem q110{f:FuncId}{F:(Ty.pair (.int .i64) .nil).den->Option (Ty.pair .str .nil).den}(h:Sound P (fun _=>True) f ⟨.pair (.int .i64) .nil,.pair .str .nil,[],F,false⟩):TextOk P f fun k=>obind (F (k,())) fun r=>some r.1:=by
 intro w k s hk hs;obtain ⟨r,hr,hs⟩:=q17 hs;cases hs;refine (h w #[.int .i64 k] (k,()) r (fun _=>False) trivial (fun b hb=>hb.elim) ⟨⟨[.int .i64 k],rfl,rfl,hk⟩,trivial⟩ hr).mono fun e w' ⟨V,he,G,vs,hV,hrc,hst⟩=>?_;have hrc:RCs w' (imm (Base.of w) (fun _=>False) w' G) G [.str r.1] vs:=by rw[q39] at hrc;exact hrc
 obtain ⟨v,rfl,hv⟩:=hrc.one;obtain ⟨rfl,hv2⟩:=hv;exact ⟨by rw[he,hV]; rfl,hv2,hst.ext.of⟩
end
section
variable {M:Type} {P:Program} {w0:Base} {ok0:Nat->Prop} {fr:Nat->Value} {σ:Env} {a:Act} {w w':World} {G:GM}
section
variable {C:Ctx} {N:Nat} {H:Hints} {Pre:World->Prop} {L:MarkL} {f:FuncId} {fn:Func}
end
end
section
variable {M:Type} {P:Program} {w0:Base} {ok0:Nat->Prop} {fr:Nat->Value} {σ:Env} {a:Act} {w w':World} {G:GM}
section
variable {C:Ctx} {N:Nat} {H:Hints} {Pre:World->Prop} {L:MarkL} {f:FuncId} {fn:Func}
end
end
section
variable {M:Type} {P:Program} {w0:Base} {ok0:Nat->Prop} {fr:Nat->Value} {σ:Env} {a:Act} {w w':World} {G:GM}
section
variable {C:Ctx} {N:Nat} {H:Hints} {Pre:World->Prop} {L:MarkL} {f:FuncId} {fn:Func}
end
end
def VioSpec.data(S:VioSpec):VioSpec:=⟨S.vt,S.ps,S.rs,[],S.fn,S.deep⟩
theorem VioOk.data{P:Program}{f:FuncId}{S:VioSpec}(h:VioOk P f S):VioOk P f S.data:=by
 intro w ds v v' x r ok bv us t hok hargs hbv hrv hx;refine (h w ds v v' x r ok bv us t hok hargs hbv hrv hx).mono fun e w' ⟨V,he,G,vs,hV,hr,hst,hG0⟩=>?_
 let G':GM:=fun id=>match id with
  | 0=>G 0
  | _+1=>none
 have e0:G' 0=G 0:=rfl;have hG':∀ id gh,G' id=some gh->id=0/\G 0=some gh:=fun id gh hg=>by
  match id,hg with
  | 0,hg=>exact ⟨rfl,hg⟩
 have hm:∀ b,imm ⟨w,fun b=>b=bv,[]⟩ ok w' G b->imm ⟨w,fun b=>b=bv,[]⟩ ok w' G' b:=fun b hb=>⟨hb.1,hb.2.1,fun id gh hg=>hb.2.2 0 gh (hG' id gh hg).2⟩;refine ⟨V,he,G',vs,hV,?_,⟨fun id gh hg=>?_,fun id id' gh gh' b h1 h2 _ _=>?_,fun id gh b hg hb=>?_,hst.ext⟩,hG0⟩
 .show RCs w' _ G' (ownAcs S.deep [] 1 (S.rs.acs r)).1 vs;rw[q39];refine q414 (h:=(0,.var (S.vt.acs v')) :: (ownAcs S.deep S.own 1 (S.rs.acs r)).2) 1 hm (fun id gh hn hg=>?_) S.own (S.rs.acs r) vs 1 (ab _) (q130 _ _) (fun j p hj=>by rw[Nat.add_comm]; exact hj) hr;obtain ⟨p,hp,ho⟩:=hst.ob id gh hg;refine ⟨p,hp,ho,fun b hb=>⟨.inr (hst.low id gh b hg hb).1,(hst.low id gh b hg hb).2,fun id' gh' hg' hb'=>?_⟩⟩;obtain ⟨rfl,hg2⟩:=hG' id' gh' hg';have:=hst.inj id 0 gh gh' b hg hg2 hb hb';omega
 .obtain ⟨rfl,hg2⟩:=hG' id gh hg;obtain ⟨p,hp,ho⟩:=hst.ob 0 gh hg2;cases hp;refine ⟨_,rfl,?_⟩;obtain ⟨b,us',t',y1,y2,y3,y4⟩:=ho;exact ⟨b,us',t',y1,y2,y3,q414 (dp:=false) (h:=[]) ((0,.var (S.vt.acs v')) :: (ownAcs S.deep S.own 1 (S.rs.acs r)).2).length hm (fs:=[]) (cs:=S.vt.acs v') (vs:=us') (fun id gh hn hg=>by obtain ⟨p,hp,_⟩:=hst.ob id gh hg;exact absurd (aQ.1 hp).1 (by omega)) _ (ab _) (q130 _ _) (fun j p hj=>by rw[q39] at hj; simp at hj) (by rw[q39]; exact y4)⟩
 .rw[(hG' id gh h1).1,(hG' id' gh' h2).1]
 .obtain ⟨rfl,hg2⟩:=hG' id gh hg;exact hst.low 0 gh b hg2 hb
end Go.Proofs.YtefbaonpbemejabGreatDoor
