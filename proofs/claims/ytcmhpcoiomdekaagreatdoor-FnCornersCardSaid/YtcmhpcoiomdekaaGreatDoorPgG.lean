/- Functions that overwrite plain data with other plain data of the same kinds: what they leave alone. No condition of its own. Marking functions gone through: the text's run overwrites plain data alone. No condition of its own. Functions that write into rows handed to them: their contracts out of their text. No condition of its own. Functions within functions that call themselves by the variable that holds them: their contracts out of their text. No condition of its own. Functions to which a variable is handed by its address: their contracts out of their text. No condition of its own. -/
import Derived.Test.YtcmhpcoiomdekaaGreatDoorPgE
import Derived.Defers
namespace Go.Proofs.YtcmhpcoiomdekaaGreatDoor
set_option linter.unusedSimpArgs false
set_option linter.unusedVariables false
open Go.RowKit
def Kin(u v:Value):Prop:=u=v\/(∃ k n m,u = .int k n/\v = .int k m/\(Lit.int k m).wf=true)\/(∃ a b,u = .bool a/\v = .bool b)\/(∃ s t,u = .string s/\v = .string t/\t.size<=maxLen)
theorem Kin.refl(u:Value):Kin u u := .inl rfl
theorem Kin.trans{u v x:Value}(h:Kin u v)(k:Kin v x):Kin u x:=by
 rcases h with rfl | ⟨i,n,m,rfl,rfl,h⟩ | ⟨a,b,rfl,rfl⟩ | ⟨s,t,rfl,rfl,h⟩
 .exact k
 .rcases k with rfl | ⟨i',n',m',e,rfl,h'⟩ | ⟨a,b,e,rfl⟩ | ⟨s,t,e,rfl,h'⟩
  .exact .inr (.inl ⟨i,n,m,rfl,rfl,h⟩)
  .cases e; exact .inr (.inl ⟨_,_,_,rfl,rfl,h'⟩)
  .cases e
  .cases e
 .rcases k with rfl | ⟨i',n',m',e,rfl,h'⟩ | ⟨a',b',e,rfl⟩ | ⟨s,t,e,rfl,h'⟩
  .exact .inr (.inr (.inl ⟨a,b,rfl,rfl⟩))
  .cases e
  .exact .inr (.inr (.inl ⟨a,b',rfl,rfl⟩))
  .cases e
 .rcases k with rfl | ⟨i',n',m',e,rfl,h'⟩ | ⟨a',b',e,rfl⟩ | ⟨s',t',e,rfl,h'⟩
  .exact .inr (.inr (.inr ⟨s,t,rfl,rfl,h⟩))
  .cases e
  .cases e
  .exact .inr (.inr (.inr ⟨s,t',rfl,rfl,h'⟩))
def Ty.like:(E:Ty)->E.den->E.den->Prop
 | .int _,_,_=>True
 | .bool,_,_=>True
 | .str,_,_=>True
 | .slice e,xs,ys=>xs.length=ys.length/\∀(i:Nat)(h:i<xs.length)(h':i<ys.length),e.like xs[i] ys[i]
 | .ptr _,none,none=>True
 | .ptr e,some x,some y=>e.like x y
 | .ptr _,_,_=>False
 | .agg t,x,y=>t.like x y
 | .nil,_,_=>True
 | .pair a b,x,y=>a.like x.1 y.1/\b.like x.2 y.2
 | .clo _ t,x,y=>t.like x y
 | .map _,xs,ys=>xs=ys
theorem Ty.like_refl:∀(E:Ty)(x:E.den),E.like x x
 | .int _,_=>trivial
 | .bool,_=>trivial
 | .str,_=>trivial
 | .slice e,_=>⟨rfl,fun _ _ _=>e.like_refl _⟩
 | .ptr _,none=>trivial
 | .ptr e,some _=>e.like_refl _
 | .agg t,x=>t.like_refl x
 | .nil,_=>trivial
 | .pair a b,x=>⟨a.like_refl _,b.like_refl _⟩
 | .clo _ t,x=>t.like_refl x
 | .map _,_=>rfl
theorem Ty.like_trans:∀(E:Ty){x y z:E.den},E.like x y->E.like y z->E.like x z
 | .int _,_,_,_,_,_=>trivial
 | .bool,_,_,_,_,_=>trivial
 | .str,_,_,_,_,_=>trivial
 | .slice e,_,_,_,h,k=>⟨h.1.trans k.1,fun i h1 h2=>e.like_trans (h.2 i h1 (by rw[<- h.1]; exact h1)) (k.2 i (by rw[<- h.1]; exact h1) h2)⟩
 | .ptr _,none,none,none,_,_=>trivial
 | .ptr e,some _,some _,some _,h,k=>e.like_trans (show e.like _ _ from h) (show e.like _ _ from k)
 | .ptr _,none,some _,_,h,_=>h.elim
 | .ptr _,some _,none,_,h,_=>h.elim
 | .ptr _,none,none,some _,_,k=>k.elim
 | .ptr _,some _,some _,none,_,k=>k.elim
 | .agg t,_,_,_,h,k=>t.like_trans (show t.like _ _ from h) (show t.like _ _ from k)
 | .nil,_,_,_,_,_=>trivial
 | .pair a b,_,_,_,h,k=>⟨a.like_trans h.1 k.1,b.like_trans h.2 k.2⟩
 | .clo _ t,_,_,_,h,k=>t.like_trans (show t.like _ _ from h) (show t.like _ _ from k)
 | .map _,_,_,_,h,k=>Eq.trans h k
structure Scr (B:Nat->Prop) (w w':World):Prop where
 low:Below 0 w w'
 out:∀ b,b<w.heap.size->¬ B b->w'.heap[b]?=w.heap[b]?
 inn:∀ b cur t,B b->w.heap[b]?=some (.cells cur t (0,0))->∃ cur':Array Value,w'.heap[b]?=some (.cells cur' t (0,0))/\cur'.size=cur.size/\∀(j:Nat)(u:Value),cur[j]?=some u->∃ u',cur'[j]?=some u'/\Kin u u'
theorem Scr.refl(B:Nat->Prop)(w:World):Scr B w w:=⟨Below.refl _ _,fun _ _ _=>rfl,fun b cur t _ h=>⟨cur,h,rfl,fun j u hu=>⟨u,hu,.refl u⟩⟩⟩
theorem Scr.of_ext{B:Nat->Prop}{w w':World}(h:Ext w w'):Scr B w w':=
 ⟨Below.mono h (Nat.zero_le _),fun b hb _=>h.block hb,fun b cur t _ hb=>⟨cur,by
  have hlt:b<w.heap.size:=(Array.getElem?_eq_some_iff.1 hb).1;rw[h.block hlt]; exact hb,rfl,fun j u hu=>⟨u,hu,.refl u⟩⟩⟩
theorem Scr.trans{B:Nat->Prop}{a b c:World}(h:Scr B a b)(k:Scr B b c):Scr B a c:=
 ⟨Below.trans h.low k.low,fun i hi hn=>(k.out i (Nat.lt_of_lt_of_le hi h.low.size) hn).trans (h.out i hi hn),fun i cur t hi hc=>by obtain ⟨c1,g1,g2,g3⟩:=h.inn i cur t hi hc;obtain ⟨c2,k1,k2,k3⟩:=k.inn i c1 t hi g1;exact ⟨c2,k1,k2.trans g2,fun j u hu=>by obtain ⟨u1,e1,e2⟩:=g3 j u hu;obtain ⟨u2,f1,f2⟩:=k3 j u1 e1;exact ⟨u2,f1,e2.trans f2⟩⟩⟩
theorem Scr.mono{B B':Nat->Prop}{w w':World}(h:Scr B w w')(hB:∀ b,B b->B' b)(hs:∀ b,B' b->¬ B b->b<w.heap.size):Scr B' w w':=
 ⟨h.low,fun b hb hn=>h.out b hb fun hh=>hn (hB b hh),fun b cur t hb hc=>by
  by_cases hh:B b
  .exact h.inn b cur t hh hc
  .exact ⟨cur,by rw[h.out b (hs b hb hh) hh]; exact hc,rfl,fun j u hu=>⟨u,hu,.refl u⟩⟩⟩
theorem Scr.solid{B:Nat->Prop}{w w':World}(h:Scr B w w'){b:Nat}(hb:B b)(hs:Solid w b):Solid w' b:=by obtain ⟨cur,t,hc⟩:=hs;obtain ⟨c1,g1,_⟩:=h.inn b cur t hb hc;exact ⟨c1,t,g1⟩
theorem Scr.cell{B:Nat->Prop}{w w':World}(h:Scr B w w'){b:Nat}(hb:B b)(hs:Solid w b){o:Nat}{u:Value}(hu:w.cell? ⟨b,o,none⟩=some u):∃ u',w'.cell? ⟨b,o,none⟩=some u'/\Kin u u':=by obtain ⟨cur,t,hc⟩:=hs;obtain ⟨c1,g1,_,g3⟩:=h.inn b cur t hb hc;rw[q28 hc] at hu;obtain ⟨u',e1,e2⟩:=g3 o u hu;exact ⟨u',by rw[q28 g1]; exact e1,e2⟩
theorem q244{B:Type}{p:Nat->B->Prop}:∀ n,(∀ i,i<n->∃ y,p i y)->∃ ys:List B,ys.length=n/\∀(i:Nat)(h:i<ys.length),p i ys[i]
 | 0,_=>⟨[],rfl,fun i h=>absurd h (by simp)⟩
 | n+1,h=>by
  obtain ⟨ys,h1,h2⟩:=q244 n fun i hi=>h i (by omega);obtain ⟨y,hy⟩:=h n (by omega);refine ⟨ys++[y],by simp[h1],fun i hi=>?_⟩;by_cases hlt:i<ys.length
  .rw[List.getElem_append_left hlt]; exact h2 i hlt
  .have:i=n:=by simp at hi; omega
   subst this;rw[List.getElem_append_right (by omega)];simpa [h1] using hy
def Kins(us vs:List Value):Prop:=us.length=vs.length/\∀(i:Nat)(u v:Value),us[i]?=some u->vs[i]?=some v->Kin u v
theorem Kins.refl(us:List Value):Kins us us:=⟨rfl,fun i u v h k=>by rw[h] at k; cases k; exact .refl u⟩
theorem Scr.cells{B:Nat->Prop}{w w':World}(h:Scr B w w'){b o:Nat}(hb:B b)(hs:Solid w b){us:List Value}(hu:q37 w b o us):∃ us',Kins us us'/\q37 w' b o us':=by
 obtain ⟨us',h1,h2⟩:=q244 (p:=fun j u'=>∃ u,us[j]?=some u/\w'.cell? ⟨b,o+j,none⟩=some u'/\Kin u u') us.length fun j hj=>by obtain ⟨u',e1,e2⟩:=h.cell hb hs (hu j us[j] (aW hj));exact ⟨u',_,aW hj,e1,e2⟩
 refine ⟨us',⟨h1.symm,fun i u v hu hv=>?_⟩,fun j u hj=>?_⟩
 .obtain ⟨hlt,rfl⟩:=aQ.1 hv;obtain ⟨u0,e0,_,e2⟩:=h2 i hlt;rw[hu] at e0; cases e0;exact e2
 .obtain ⟨hlt,rfl⟩:=aQ.1 hj;obtain ⟨_,_,e1,_⟩:=h2 j hlt;exact e1
theorem Scr.rp{B:Nat->Prop}{w w':World}(h:Scr B w w')(hs:∀ b,B b->Solid w b):∀(E:Ty){us us':List Value}{x:E.den},E.rp w B us x->Kins us us'->∃ x',E.like x x'/\E.rp w' B us' x':=by
 have one:∀{u:Value}{us':List Value},Kins [u] us'->∃ u',us'=[u']/\Kin u u':=by
  intro u us' hk
  match us',hk with
  | [u'],hk=>exact ⟨u',rfl,hk.2 0 u u' rfl rfl⟩
  | [],hk=>exact absurd hk.1 (by simp)
  | _ :: _ :: _,hk=>exact absurd hk.1 (by simp)
 intro E
 induction E with
 | map e _=>
  intro us us' x hr hk;obtain ⟨b,es,clock,_,hb,hh,_⟩:=hr;obtain ⟨cur,t,hc⟩:=hs b hb;rw[hh] at hc; cases hc
 | int k=>
  intro us us' x hr hk;obtain ⟨rfl,hw⟩:=hr;obtain ⟨u',rfl,hu⟩:=one hk;rcases hu with rfl | ⟨i,n,m,e,rfl,h1⟩ | ⟨a,b,e,rfl⟩ | ⟨s,t,e,rfl,h1⟩
  .exact ⟨x,trivial,rfl,hw⟩
  .cases e; exact ⟨m,trivial,rfl,h1⟩
  .cases e
  .cases e
 | bool=>
  intro us us' x hr hk;obtain rfl:us=[.bool x]:=hr;obtain ⟨u',rfl,hu⟩:=one hk;rcases hu with rfl | ⟨i,n,m,e,rfl,h1⟩ | ⟨a,b,e,rfl⟩ | ⟨s,t,e,rfl,h1⟩
  .exact ⟨x,trivial,rfl⟩
  .cases e
  .exact ⟨b,trivial,rfl⟩
  .cases e
 | str=>
  intro us us' x hr hk;obtain ⟨rfl,hw⟩:=hr;obtain ⟨u',rfl,hu⟩:=one hk;rcases hu with rfl | ⟨i,n,m,e,rfl,h1⟩ | ⟨a,b,e,rfl⟩ | ⟨s,t,e,rfl,h1⟩
  .exact ⟨x,trivial,rfl,hw⟩
  .cases e
  .cases e
  .exact ⟨t,trivial,rfl,h1⟩
 | slice e ih=>
  intro us us' xs hr hk;obtain ⟨A,cap,rfl,h1,h2,h3⟩:=hr;obtain ⟨u',rfl,hu⟩:=one hk;have hu:u' = .slice A xs.length cap:=by
   rcases hu with rfl | ⟨i,n,m,e,rfl,h1⟩ | ⟨a,b,e,rfl⟩ | ⟨s,t,e,rfl,h1⟩
   .rfl
   .cases e
   .cases e
   .cases e
  subst hu;by_cases h0:0<xs.length
  .obtain ⟨b,o,rfl,hb,hc⟩:=h3 h0;obtain ⟨ys,g1,g2⟩:=q244 (p:=fun i y=>∃ (hi:i<xs.length) (us:List Value),e.like xs[i] y/\e.rp w' B us y/\q37 w' b (o+i * e.sz) us) xs.length fun i hi=>by obtain ⟨us,hr,hcs⟩:=hc i hi;obtain ⟨us',k1,k2⟩:=h.cells hb (hs b hb) hcs;obtain ⟨y,l1,l2⟩:=ih hr k1;exact ⟨y,hi,us',l1,l2,k2⟩
   refine ⟨ys,⟨g1.symm,fun i hi hi'=>?_⟩,some ⟨b,o,none⟩,cap,by rw[g1],by rw[g1]; exact h1,h2,fun _=>⟨b,o,rfl,hb,fun i hi=>?_⟩⟩
   .obtain ⟨_,_,l1,_⟩:=g2 i hi'; exact l1
   .obtain ⟨_,us,_,l2,l3⟩:=g2 i hi; exact ⟨us,l2,l3⟩
  .have:xs=[]:=List.eq_nil_of_length_eq_zero (by omega);subst this;exact ⟨[],⟨rfl,fun i h=>absurd h (by simp)⟩,A,cap,rfl,h1,h2,fun h=>absurd h (by simp)⟩
 | ptr e ih=>
  intro us us' x hr hk;cases x with
  | none=>
   obtain rfl:us=[.pointer none]:=hr;obtain ⟨u',rfl,hu⟩:=one hk;rcases hu with rfl | ⟨i,n,m,e,rfl,h1⟩ | ⟨a,b,e,rfl⟩ | ⟨s,t,e,rfl,h1⟩
   .exact ⟨none,trivial,rfl⟩
   .cases e
   .cases e
   .cases e
  | some x=>
   obtain ⟨b,o,vs,rfl,hb,hr,hc⟩:=hr;obtain ⟨u',rfl,hu⟩:=one hk;rcases hu with rfl | ⟨i,n,m,e,rfl,h1⟩ | ⟨a,b,e,rfl⟩ | ⟨s,t,e,rfl,h1⟩
   .obtain ⟨vs',k1,k2⟩:=h.cells hb (hs b hb) hc;obtain ⟨y,l1,l2⟩:=ih hr k1;exact ⟨some y,l1,b,o,vs',rfl,hb,l2,k2⟩
   .cases e
   .cases e
   .cases e
 | agg t ih=>exact fun hr hk=>ih hr hk
 | nil=>
  intro us us' x hr hk;obtain rfl:us=[]:=hr;exact ⟨(),trivial,List.eq_nil_of_length_eq_zero hk.1.symm⟩
 | pair a b iha ihb=>
  intro us us' x hr hk;obtain ⟨c1,c2,rfl,h1,h2⟩:=hr;have hl:us'.length=c1.length+c2.length:=by rw[<- hk.1,aY]
  have k1:Kins c1 (us'.take c1.length):=⟨by rw[List.length_take]; omega,fun i u v hu hv=>by
   rw[List.getElem?_take] at hv;split at hv
   .exact hk.2 i u v (by rw[aH (aQ.1 hu).1]; exact hu) hv
   .cases hv⟩
  have k2:Kins c2 (us'.drop c1.length):=⟨by rw[List.length_drop]; omega,fun i u v hu hv=>by rw[List.getElem?_drop] at hv;exact hk.2 _ u v (by rw[List.getElem?_append_right (by omega),Nat.add_sub_cancel_left]; exact hu) hv⟩;obtain ⟨y,l1,l2⟩:=iha h1 k1;obtain ⟨z,m1,m2⟩:=ihb h2 k2;exact ⟨(y,z),⟨l1,m1⟩,_,_,(List.take_append_drop c1.length us').symm,l2,m2⟩
 | clo g t ih=>
  intro us us' x hr hk;obtain ⟨vs,rfl,hr⟩:=hr;obtain ⟨u',rfl,hu⟩:=one hk;rcases hu with rfl | ⟨i,n,m,e,rfl,h1⟩ | ⟨a,b,e,rfl⟩ | ⟨s,t,e,rfl,h1⟩
  .obtain ⟨y,l1,l2⟩:=ih hr (Kins.refl vs);exact ⟨y,l1,vs,rfl,l2⟩
  .cases e
  .cases e
  .cases e
structure MSpec where
 E:Ty
 fn:E.den->Int->Option Int
def MarkOk(P:Program)(f:FuncId)(S:MSpec):Prop:=
 ∀(w:World)(cs:List Value)(x x':S.E.den)(k n:Int)(B:Nat->Prop),(∀ b,B b->Solid w b)->S.E.like x x'->S.E.rp w B cs x'->(Lit.int .i64 k).wf=true->S.fn x k=some n->
  Calls P f #[pack1 S.E cs,.int .i64 k] w (fun e w'=>e = .returned (.int .i64 n)/\(Lit.int .i64 n).wf=true/\Scr B w w')
abbrev MarkL:=List (FuncId×MSpec)
def MarkL.find:MarkL->FuncId->Option MSpec
 | [],_=>none
 | (g,s) :: r,f=>bif Nat.beq g f then some s else MarkL.find r f
theorem MarkL.find_mem:∀{L:MarkL}{f:FuncId}{S:MSpec},L.find f=some S->(f,S)∈L
 | [],_,_,h=>by cases h
 | (g,s) :: r,f,S,h=>by
  unfold MarkL.find at h;cases hb:Nat.beq g f with
  | true=>rw[hb] at h; cases h; rw[<- aU hb]; exact List.mem_cons_self
  | false=>rw[hb] at h; exact List.mem_cons_of_mem _ (MarkL.find_mem h)
section
variable {M:Type} {P:Program} {w0:Base} {ok0:Nat->Prop}
def markK(S:MSpec)(vs:List AV)(J:Env)(K:AV->Env->Option M):Option M:=match vs with
 | [v,.one (.int .i64 k)]=>bif (v.isAgg == S.E.isAgg && S.E.proper) && (v.cells.all AC.soleC && q253 J.h (q26 v.cells)) then
  match S.E.ofAcs (onlyH (q26 v.cells) J.h 0) v.cells with
  | some x=>obind (S.fn x k) fun n=>K (.one (.int .i64 n)) (J.takes (q26 v.cells))
  | none=>none
  else none
 | _=>none
def q265(L:MarkL)(I:Inl M):Inl M:=fun f vs J K=>match L.find f with
 | some S=>markK S vs J K
 | none=>I f vs J K
theorem q315{L:MarkL}{I:Inl M}(hL:∀ p∈L,MarkOk P p.1 p.2/\q18 P p.1)(hI:InlOk P w0 ok0 I):InlOk P w0 ok0 (q265 L I):=by
 intro f vs J K r h;unfold q265 at h;split at h
 case h_2=>exact hI f vs J K r h
 rename_i S hS;obtain ⟨hM,hcb⟩:=hL _ (MarkL.find_mem hS);unfold markK at h;split at h
 case h_2=>cases h
 rename_i v k;obtain ⟨hb,h⟩:=q11 h;simp only[aT,beq_iff_eq] at hb;obtain ⟨⟨hagg,hprop⟩,hsole,htk⟩:=hb;obtain ⟨hnd,hso⟩:=q132 htk;split at h
 case h_2=>cases h
 rename_i x hx;obtain ⟨n,hn,hK⟩:=q27 h;refine ⟨_,_,hK,Fr.takes _ _,hcb,fun fr a w G Vs hR hlen hrel=>?_⟩
 match Vs,hlen with
 | [V,V2],_=>
  have hv:=hrel 0 v V rfl rfl;have hk:RC w (imm w0 ok0 w G) G (.int .i64 k) V2:=hrel 1 _ V2 rfl rfl;obtain ⟨rfl,hkw⟩:=hk;have:∃ cs,V=pack1 S.E cs/\RCs w (imm w0 ok0 w G) G v.cells cs:=by
   cases v with
   | one c=>exact ⟨[V],by simp[pack1,<- hagg,AV.isAgg],RCs.cons hv RCs.nil⟩
   | agg cs=>obtain ⟨us,rfl,hr⟩:=hv; exact ⟨us,by simp[pack1,<- hagg,AV.isAgg],hr⟩
   | tup l=>exact absurd (List.all_eq_true.1 hsole .bad (by simp[AV.cells])) (by simp[AC.soleC])
  obtain ⟨cs,rfl,hcs⟩:=this;have hrp:=q670 (J:=J) hR.st rfl hso hsole hx hcs;have hsl:=q451 (J:=J) hR.st rfl hso;refine (hM w cs x x k n (q77 J.h G (q26 v.cells)) hsl (Ty.like_refl _ _) hrp hkw hn).mono fun e w' ⟨he,hnw,hscr⟩=>⟨_,he,_,hR.takes (q26 v.cells) hscr.low (fun b hb hno=>hscr.out b hb fun hh=>hno hh.any),rfl,hnw⟩
 | [],h=>simp at h
 | [_],h=>simp at h
 | _ :: _ :: _ :: _,h=>simp at h
end
inductive MV where
 | bad
 | int (k:IntKind) (n:Int)
 | bool (b:Bool)
 | str
 | slc (e:Ty) (xs:List e.den)
 | agg (E:Ty) (x:E.den)
 | eptr (e:Ty) (x:e.den) (off:Nat)
 | box (E:Ty) (x:E.den) (off:Nat)
 deriving Inhabited
abbrev TextL:=List (FuncId×(Int->Option ByteArray))
def TextL.find:TextL->FuncId->Option (Int->Option ByteArray)
 | [],_=>none
 | (g,s) :: r,f=>bif Nat.beq g f then some s else TextL.find r f
def mvOf:Value->MV
 | .int k n=>bif (Lit.int k n).wf then .int k n else .bad
 | .bool b => .bool b
 | _ => .bad
def mevA(J:List MV):Operand->MV
 | .tmp i=>nth J i .bad
 | .const v=>mvOf v
 | _ => .bad
section
variable {M:Type} (P:Program) (L:MarkL) (X:TextL)
def mput(ro:List Nat)(J:List MV)(d:Option Nat)(v:MV):Option (List MV):=match d with
 | none=>some J
 | some i=>bif ro.any (Nat.beq i) then none else some (setN J i v)
end
def MV.R(w:World)(B:Nat->Prop):MV->Value->Prop
 | .bad,_=>True
 | .int k n,V=>V = .int k n/\(Lit.int k n).wf=true
 | .bool b,V=>V = .bool b
 | .str,V=>∃ s:ByteArray,V = .string s/\s.size<=maxLen
 | .slc e xs,V=>∃ xs',(Ty.slice e).like xs xs'/\(Ty.slice e).rp w B [V] xs'
 | .agg E x,V=>∃ (us:List Value) (x':E.den),V = .agg us.toArray/\E.like x x'/\E.rp w B us x'
 | .eptr e x off,V=>∃ (b o:Nat) (us:List Value) (x':e.den),V = .pointer (some ⟨b,o+off,none⟩)/\B b/\e.like x x'/\e.rp w B us x'/\q37 w b o us
 | .box E x off,V=>∃ (b:Nat) (us:List Value) (x':E.den),V = .pointer (some ⟨b,off,none⟩)/\¬ B b/\b<w.heap.size/\E.like x x'/\E.rp w B us x'/\q37 w b 0 us
theorem MV.R.scr{w w':World}{B:Nat->Prop}(h:Scr B w w')(hs:∀ b,B b->Solid w b){v:MV}{V:Value}(hr:v.R w B V):v.R w' B V:=by
 cases v with
 | slc e xs=>
  obtain ⟨ys,h1,h2⟩:=hr;obtain ⟨zs,g1,g2⟩:=h.rp hs (.slice e) h2 (Kins.refl _);exact ⟨zs,Ty.like_trans (.slice e) h1 g1,g2⟩
 | agg E x=>
  obtain ⟨us,y,rfl,h1,h2⟩:=hr;obtain ⟨z,g1,g2⟩:=h.rp hs E h2 (Kins.refl _);exact ⟨us,z,rfl,E.like_trans h1 g1,g2⟩
 | eptr e x off=>
  obtain ⟨b,o,us,y,rfl,hb,h1,h2,h3⟩:=hr;obtain ⟨us',k1,k2⟩:=h.cells hb (hs b hb) h3;obtain ⟨z,g1,g2⟩:=h.rp hs e h2 k1;exact ⟨b,o,us',z,rfl,hb,e.like_trans h1 g1,g2,k2⟩
 | box E x off=>
  obtain ⟨b,us,y,rfl,hb,hlt,h1,h2,h3⟩:=hr;obtain ⟨z,g1,g2⟩:=h.rp hs E h2 (Kins.refl _);exact ⟨b,us,z,rfl,hb,Nat.lt_of_lt_of_le hlt h.low.size,E.like_trans h1 g1,g2,h3.keep (h.out b hlt hb)⟩
 | _=>exact hr
inductive LC:AC->AC->Prop
 | int (k:IntKind) (n m:Int):LC (.int k n) (.int k m)
 | bool (a b:Bool):LC (.bool a) (.bool b)
 | str (s t:ByteArray):LC (.str s) (.str t)
 | slc (e:Ty) (xs ys:List e.den) (h:(Ty.slice e).like xs ys):LC (.slc e xs) (.slc e ys)
 | ptr (e:Ty) (p q:Option e.den) (h:(Ty.ptr e).like p q):LC (.ptr e p) (.ptr e q)
 | clo (g:FuncId) (t:Ty) (x y:t.den) (h:t.like x y):LC (.clo g t x) (.clo g t y)
 | mp (e:Ty) (xs:List (Int×e.den)):LC (.mp e xs) (.mp e xs)
def LCs(cs ds:List AC):Prop:=cs.length=ds.length/\∀(i:Nat)(c d:AC),cs[i]?=some c->ds[i]?=some d->LC c d
theorem LCs.one{c d:AC}(h:LC c d):LCs [c] [d]:=⟨rfl,fun i a b ha hb=>by
 cases i with
 | zero=>simp at ha hb; subst ha hb; exact h
 | succ i=>simp at ha⟩
theorem LCs.take{cs ds:List AC}(h:LCs cs ds)(n:Nat):LCs (cs.take n) (ds.take n):=⟨by simp[h.1],fun i c d hc hd=>by
 rw[List.getElem?_take] at hc hd;split at hc
 .rename_i hi; rw[if_pos hi] at hd; exact h.2 i c d hc hd
 .cases hc⟩
theorem LCs.drop{cs ds:List AC}(h:LCs cs ds)(n:Nat):LCs (cs.drop n) (ds.drop n):=⟨by simp[h.1],fun i c d hc hd=>by rw[List.getElem?_drop] at hc hd;exact h.2 _ c d hc hd⟩
structure MRel (w0:World) (B:Nat->Prop) (J:List MV) (a:Act) (w:World):Prop where
 len:J.length=a.tmps.size
 tmp:∀(i:Nat)(v:MV)(V:Value),J[i]?=some v->a.tmps[i]?=some V->v.R w B V
 dfs:a.defers=[]
 scr:Scr B w0 w
 sol:∀ b,B b->Solid w b
theorem MRel.step{w0:World}{B:Nat->Prop}{J:List MV}{a:Act}{w w':World}(h:MRel w0 B J a w)(hs:Scr B w w'):MRel w0 B J a w':=
 ⟨h.len,fun i v V h1 h2=>(h.tmp i v V h1 h2).scr hs h.sol,h.dfs,h.scr.trans hs,fun b hb=>hs.solid hb (h.sol b hb)⟩
theorem MRel.ev{w0:World}{B:Nat->Prop}{J:List MV}{a:Act}{w:World}(h:MRel w0 B J a w)(x:Operand):(mevA J x).R w B (a.eval x):=by
 cases x with
 | tmp i=>
  simp only[mevA,nth_eq,Act.eval];by_cases hi:i<J.length
  .have h1:J[i]?=some J[i]:=aW hi;have h2:a.tmps[i]?=some (a.tmps[i]'(by rw[<- h.len]; exact hi)):=Array.getElem?_eq_getElem _;rw[h1,Array.getD_eq_getD_getElem?,h2];exact h.tmp i _ _ h1 h2
  .rw[aG (Nat.le_of_not_lt hi)];exact trivial
 | const v=>
  show (mvOf v).R w B v;unfold mvOf;split
  .rename_i k n;cases hw:(Lit.int k n).wf
   .exact trivial
   .exact ⟨rfl,hw⟩
  .rfl
  .exact trivial
 | _=>exact trivial
theorem MRel.put{w0:World}{B:Nat->Prop}{J J':List MV}{a:Act}{w:World}(h:MRel w0 B J a w){ro:List Nat}{d:Option Nat}{v:MV}{V:Value}(hp:mput ro J d v=some J')(hv:v.R w B V):MRel w0 B J' (a.put d V) w:=by
 cases d with
 | none=>cases hp; exact h
 | some n=>
  simp only[mput] at hp;cases hb:ro.any (Nat.beq n) with
  | true=>rw[hb] at hp; cases hp
  | false=>
   rw[hb] at hp;cases hp;refine ⟨by simp[Act.put,q14,h.len],fun i u U hu hU=>?_,h.dfs,h.scr,h.sol⟩;rw[getElem?_setN] at hu;simp only[Act.put,Array.getElem?_setIfInBounds] at hU;by_cases hi:i=n
   .subst hi;by_cases hlt:i<J.length
    .rw[if_pos ⟨rfl,hlt⟩] at hu;rw[if_pos rfl,if_pos (by rw[<- h.len]; exact hlt)] at hU;cases hu; cases hU;exact hv
    .rw[if_neg (fun h=>hlt h.2),aG (by omega)] at hu;cases hu
   .rw[if_neg (fun h=>hi h.1)] at hu;rw[if_neg (Ne.symm hi)] at hU;exact h.tmp i u U hu hU
def Same(ro:List Nat)(J J':List MV):Prop:=J'.length=J.length/\∀ i,ro.any (Nat.beq i)=true->J'[i]?=J[i]?
theorem Same.refl(ro:List Nat)(J:List MV):Same ro J J:=⟨rfl,fun _ _=>rfl⟩
theorem Same.trans{ro:List Nat}{a b c:List MV}(h:Same ro a b)(k:Same ro b c):Same ro a c:=⟨k.1.trans h.1,fun i hi=>(k.2 i hi).trans (h.2 i hi)⟩
section
variable {M:Type} {P:Program} {L:MarkL} {X:TextL} {w0:World} {B:Nat->Prop}
theorem TextL.find_mem:∀{L:TextL}{f:FuncId}{F:Int->Option ByteArray},TextL.find L f=some F->(f,F)∈L
 | [],_,_,h=>by cases h
 | (g,s) :: r,f,S,h=>by
  unfold TextL.find at h;cases hb:Nat.beq g f with
  | true=>rw[hb] at h; cases h; rw[<- aU hb]; exact List.mem_cons_self
  | false=>rw[hb] at h; exact List.mem_cons_of_mem _ (TextL.find_mem h)
theorem q32:∀ p∈([]:MarkL),MarkOk P p.1 p.2/\q18 P p.1:=fun p h=>by cases h
end
section
variable {M:Type} {P:Program} {w0:Base} {ok0:Nat->Prop} {fr:Nat->Value} {J:Env} {a:Act} {w w':World} {G:GM}
def pevFnX(P:Program)(C:Ctx)(L:MarkL)(N:Nat)(H:Hints)(S:FnSpec)(fn:Func)(x:S.ps.den):Option S.rs.den:=
 match fn.body with
 | some c=>pev P C (q265 L (withIO C.io (inlK P C.fns C.tabs C.io N C.inl 4))) N H c 0 (entryW fn (S.ps.avs x)) fun e J=>retK P S fn e ((J.mkOwn H.rets).mkOwnC H.retc)
 | none=>none
section
variable {C:Ctx} {N:Nat} {H:Hints} {Pre:World->Prop} {L:MarkL} {f:FuncId} {fn:Func}
theorem q475{S:FnSpec}(hs:Site P C Pre)(hL:∀ p∈L,MarkOk P p.1 p.2/\q18 P p.1)(hf:P.funcs[f]?=some fn)(hpl:q90 S.ps=true)(h:∀ x r,S.fn x=some r->pevFnX P C L N H S fn x=some r):Sound P Pre f S:=by
 intro w args x r ok hpre hlow hargs hx;have h1:=h x r hx;unfold pevFnX at h1;split at h1
 .rename_i c hc;have hp:Place P C Pre (Base.of w) ok:=⟨hs.calls,fun w' hw=>hs.pre w w' hpre hw.of,hlow,fun w' hw=>hs.tabs w' (hs.pre w w' hpre hw.of)⟩;obtain ⟨e,J',g1,g2,g3⟩:=q262 (H:=H) hp (q315 hL (q282 hs.ios (inl_ok (N:=N) hp.calls hp.pre hp.low hp.tabs hs.ios hs.mixed hs.inl 4))) hs.ios hs.mixed c 0 _ (fun e J=>retK P S fn e ((J.mkOwn H.rets).mkOwnC H.retc)) r h1;refine calls_of_wp hf hc ?_;have hal:(S.ps.avs x).length=args.size:=by rw[hargs.len]; simp
  have hR:Rel (Base.of w) ok (fun _=>undef) (entryW fn (S.ps.avs x)) { tmps:=args++Array.replicate (fn.ntmps - args.size) undef,defers:=[] } w (fun _=>none):=by
   refine ⟨by simp[entryW,hal],fun i p v hp hv=>?_,rfl,⟨(fun id gh hg=>by cases hg),(fun id id' gh gh' b hg=>by cases hg),(fun id gh b hg=>by cases hg),BExt.refl w _⟩,(fun id p k l hp=>by simp[entryW] at hp)⟩;simp only[entryW,List.getElem?_map,Option.map_eq_some_iff] at hp;obtain ⟨q,hq,rfl⟩:=hp;by_cases hi:i<args.size
   .rw[aH (by rw[hal]; exact hi)] at hq;rw[Array.getElem?_append_left hi] at hv;exact hargs.rv (fun b hb=>⟨.inl hb,hlow b hb,fun id gh hg=>by cases hg⟩) S.ps _ x hpl i q v hq (by simpa using hv)
   .rw[List.getElem?_append_right (by omega),List.getElem?_replicate] at hq;rw[Array.getElem?_append_right (by omega),Array.getElem?_replicate] at hv;split at hq
    .split at hv
     .cases hq; cases hv; rfl
     .cases hv
    .cases hq
  refine g3 _ _ w _ _ hR fun a' w' G' hR'=>?_;have he:e = .normal\/e = .ret:=by cases e <;> first | exact .inl rfl | exact .inr rfl | cases g1
  obtain ⟨G0,hR0⟩:=hR'.mkOwn H.rets;obtain ⟨G1,hR1⟩:=hR0.mkOwnC H.retc;obtain ⟨V,hV,hres⟩:=q498 g1 he hR1 hlow;rcases he with rfl | rfl
  .exact ⟨hR'.dfs,V,hV,V,rfl,hres⟩
  .exact ⟨hR'.dfs,V,hV,V,rfl,hres⟩
 .cases h1
theorem q23{g:FuncId}{S:HookS}{LI:HookL}(h:HookOk P g S)(hk:q18 P g)(hc:∀ p∈LI,HookOk P p.1 p.2/\q18 P p.1):∀ p∈((g,S) :: LI:HookL),HookOk P p.1 p.2/\q18 P p.1:=by
 intro p hp;rcases List.mem_cons.1 hp with rfl | hp
 .exact ⟨h,hk⟩
 .exact hc p hp
end
end
section
variable {M:Type} {P:Program} {w0:Base} {ok0:Nat->Prop} {fr:Nat->Value} {J:Env} {a:Act} {w w':World} {G:GM}
section
variable {C:Ctx} {N:Nat} {H:Hints} {Pre:World->Prop} {L:MarkL} {f:FuncId} {fn:Func}
end
end
def q278(S:VioSpec)(fn:Func)(v:S.vt.den)(x:S.ps.den):Env:=⟨((.one (.vptr 0 0) :: S.ps.avs x)++List.replicate (fn.ntmps - ((.one (.vptr 0 0) :: S.ps.avs x:List AV)).length) (AV.one AC.und)).map fun v=>(0,v),
 [(0,.var (S.vt.acs v)),(0,.frame 9 [(0,.one (.vptr 0 0))])]⟩
def vp1:List (Nat×AV)->Bool
 | [(_,.one (.vptr a 0))]=>Nat.beq a 0
 | _=>false
theorem q765{l:List (Nat×AV)}(h:vp1 l=true):∃ a,l=[(a,.one (.vptr 0 0))]:=by
 unfold vp1 at h;split at h
 .rw[aU h];exact ⟨_,rfl⟩
 .cases h
def vioEnd(P:Program)(S:VioSpec)(fn:Func)(J:Env):Option (S.rs.den×S.vt.den):=match resAVs P J fn.results.toList,J.ob 0,J.ob 1 with
 | some vs,.var cs,.frame 9 l=>bif (aggsOk S.rs vs && !(vs.flatMap AV.cells).any isBadC) && vp1 l then
  match S.vt.ofAcs [] cs,q138 S.deep J.h S.own (vs.flatMap AV.cells) with
  | some v',some (ids,ds)=>bif ids.any (Nat.beq 0) then none else both (S.rs.ofAcs (q81 (0 :: ids) J.h) ds) (some v')
  | _,_=>none
  else none
 | _,_,_=>none
def retVio(P:Program)(S:VioSpec)(fn:Func)(e:Exit)(J:Env):Option (S.rs.den×S.vt.den):=match e with
 | .normal | .ret=>vioEnd P S fn J
 | _=>none
section
variable {M:Type} {P:Program} {w0:Base} {ok0:Nat->Prop} {fr:Nat->Value} {J:Env} {a:Act} {w w':World} {G:GM}
def pevFnV(P:Program)(C:Ctx)(L:MarkL)(N:Nat)(H:Hints)(S:VioSpec)(fn:Func)(v:S.vt.den)(x:S.ps.den):Option (S.rs.den×S.vt.den):=
 match fn.body with
 | some c=>pev P C (q265 L (withIO C.io (inlK P C.fns C.tabs C.io N C.inl 4))) N H c 0 (q278 S fn v x) fun e J=>retVio P S fn e ((J.mkOwn H.rets).mkOwnC H.retc)
 | none=>none
theorem q550{ok ok':Nat->Prop}{G:GM}(hm:∀ b,ok b->ok' b):∀(E:Ty)(x:E.den)(vs:List Value),q381 w ok E x vs->(E.avs x).length=vs.length/\∀(i:Nat)(q:AV)(v:Value),(E.avs x)[i]?=some q->vs[i]?=some v->RV w ok' G q v:=by
 intro E
 induction E with
 | pair s b _ ihb=>
  intro x vs h
  match vs,h with
  | v :: vs,h=>
   replace h:((∃ cs,v=pack1 s cs/\s.rp w ok cs x.1)/\s.proper=true)/\q381 w ok b x.2 vs:=h
   obtain ⟨⟨⟨cs,hv,hc⟩,hp⟩,h⟩:=h;obtain ⟨h1,h2⟩:=ihb x.2 vs h;refine ⟨by show (s.av x.1 :: b.avs x.2).length=_; simp[h1],fun i q u hq hu=>?_⟩
   replace hq:(s.av x.1 :: b.avs x.2)[i]?=some q:=hq
   cases i with
   | zero=>
    simp at hq hu;subst hq hu hv;exact Ty.av_rv s (Ty.rp_keep s hc (fun _ _=>rfl) hm) (fun a b e=>by subst e; cases hp) (fun e=>by subst e; cases hp)
   | succ i=>exact h2 i q u (by simpa using hq) (by simpa using hu)
  | [],h=>exact h.elim
 | nil=>
  intro x vs h
  match vs,h with
  | [],_=>exact ⟨rfl,fun i q v hq=>by simp[Ty.avs] at hq⟩
  | _ :: _,h=>exact h.elim
 | _=>intro x vs h; exact h.elim
theorem q539{S:VioSpec}{fn:Func}{J:Env}{r:S.rs.den}{v':S.vt.den}{ok:Nat->Prop}{bv:Nat}(h:vioEnd P S fn J=some (r,v'))(hR:Rel ⟨w0.w,fun b=>b=bv⟩ ok (fun j=>if j=9 then .func (.func 0) #[] #[pAt bv] else undef) J a w G):
 ∃ V,(results fn a.tmps).run P w = .ok V w/\∃ (G1:GM) (vs:List Value),V=packR S.rs vs/\RCs w (imm ⟨w0.w,fun b=>b=bv⟩ ok w G1) G1 (ownAcs S.deep S.own 1 (S.rs.acs r)).1 vs/\
  St ⟨w0.w,fun b=>b=bv⟩ ok ((0,.var (S.vt.acs v')) :: (ownAcs S.deep S.own 1 (S.rs.acs r)).2) w G1/\G1 0=some (Gh.mk0 (some bv) (.bool true)):=by
 unfold vioEnd at h;split at h
 case h_2=>cases h
 rename_i vs cs l hvs o0 o1;obtain ⟨hag,h⟩:=q11 h;simp only[aT,Bool.not_eq_true'] at hag;obtain ⟨⟨hag,hbad⟩,hv1⟩:=hag;split at h
 case h_2=>cases h
 rename_i v2 ids ds hv2 htk;cases h0:ids.any (Nat.beq 0)
 case true=>rw[h0] at h; cases h
 rw[h0,cond_false] at h;unfold both at h;split at h
 case h_2=>cases h
 rename_i r2 v3 h2 hv3;cases hv3;cases h;obtain ⟨n1,rfl⟩:=q765 hv1;have hk1:∃ p,J.h[1]?=some p/\p.2 = .frame 9 [(n1,.one (.vptr 0 0))]:=by
  unfold Env.ob at o1;rw[nth_eq] at o1;cases hq:J.h[1]? with
  | none=>rw[hq] at o1; cases o1
  | some q=>rw[hq] at o1; exact ⟨q,rfl,o1⟩
 obtain ⟨p1,hp1,hp1'⟩:=hk1;obtain ⟨gf,hgf,hgh⟩:=hR.frm 1 p1 9 _ hp1 hp1';have hof:=ob_of hR hgf;rw[o1] at hof;obtain ⟨_,ts,ht1,ht2,ht3⟩:=hof;have hts:ts=[pAt bv]:=by
  rw[hgh] at ht1
  replace ht1:Value.func (.func 0) #[] #[pAt bv] = .func (.func 0) #[] ts.toArray:=ht1
  have:#[pAt bv]=ts.toArray:=by injection ht1
  have:=congrArg Array.toList this;simpa using this.symm
 subst hts;have q0:RV w (imm ⟨w0.w,fun b=>b=bv⟩ ok w G) G (.one (.vptr 0 0)) (pAt bv):=ht3 0 (n1,_) _ rfl rfl;obtain ⟨gv,b0,g1,g2,g3⟩:=q0;unfold pAt at g3;injection g3 with g3; injection g3 with g3; injection g3 with g3
 subst g3;obtain ⟨b1,us0,t0,x1,x2,x3,x4⟩:=var_at hR g1 o0;obtain rfl:b1=bv:=Option.some.inj (x1.symm.trans g2);obtain ⟨Vs,hrun,hlen,hrv⟩:=q145 hR _ _ hvs;obtain ⟨us,hus,hpk⟩:=q386 S.rs vs Vs hag hlen hrv hbad;obtain ⟨hl,hcell⟩:=q97 (q81 (0 :: ids) J.h) S.rs ds r h2
 let G':GM:=fun k=>match k with
  | 0=>some (Gh.mk0 (some b1) (.bool true))
  | k+1=>(ids[k]?).bind G
 have hG':∀ k gh,G' (k+1)=some gh->∃ id,ids[k]?=some id/\G id=some gh:=fun k gh hg=>by
  cases hk:ids[k]? with
  | none=>simp[G',hk] at hg
  | some id=>exact ⟨id,rfl,by simpa [G',hk] using hg⟩
 have hids:∀ id∈ids,id≠0:=fun id hid e=>by subst e;rw[List.any_eq_false] at h0;exact h0 0 hid rfl
 have hm:∀ b,imm ⟨w0.w,fun b=>b=b1⟩ ok w G b->imm ⟨w0.w,fun b=>b=b1⟩ ok w G' b:=fun b hb=>⟨hb.1,hb.2.1,fun k gh hg he=>by
  match k,hg with
  | 0,hg=>
   cases hg;exact hb.2.2 0 gv g1 (.inl (by rw[g2]; exact Gh.has0.1 he))
  | k+1,hg=>
   obtain ⟨id,_,hg'⟩:=hG' k gh hg;exact hb.2.2 id gh hg' he⟩
 have Hob:∀ id gh,G id=some gh->(nth (q81 (0 :: ids) J.h) id (0,.gone)).2 ≠ .gone->ObR w (imm ⟨w0.w,fun b=>b=b1⟩ ok w G) G gh (nth (q81 (0 :: ids) J.h) id (0,.gone)).2/\∀ b,(nth (q81 (0 :: ids) J.h) id (0,.gone)).2.uses gh b->imm ⟨w0.w,fun b=>b=b1⟩ ok w G' b:=by
  intro id gh hg hn;obtain ⟨h3,h4⟩:=q254 (0 :: ids) J.h id hn;rw[h4];refine ⟨ob_of hR hg,fun b hbu=>have hb:=Ob.uses_has hbu; ⟨.inr (hR.st.low id gh b hg hb).1,(hR.st.low id gh b hg hb).2,fun k gh' hg' hb'=>?_⟩⟩
  match k,hg' with
  | 0,hg'=>
   cases hg';have:=hR.st.inj id 0 gh gv b hg g1 hb (.inl (by rw[g2]; exact Gh.has0.1 hb'));subst this;exact h3 (by simp)
  | k+1,hg'=>
   obtain ⟨id',h5,h6⟩:=hG' k gh' hg';have:=hR.st.inj id id' gh gh' b hg h6 hb hb';subst this;exact h3 (by simp[List.mem_of_getElem? h5])
 obtain ⟨y1,y2,y3,y4,y5⟩:=q324 J.h (q81 (0 :: ids) J.h) (G':=G') hm Hob S.own _ ids ds (S.rs.acs r) us 1 htk (by rw[q51,hl]) hcell hus (fun j id hj=>by rw[show 1+j=j+1 by omega];show (ids[j]?).bind G=_;rw[hj]; rfl);refine ⟨packR S.rs us,by rw[q179 fn a.tmps w Vs hrun,<- hpk]; rfl,G',us,rfl,y1,⟨fun k gh hg=>?_,fun k k' gh gh' b e1 e2 e3 e4=>?_,fun k gh b hg hb=>?_,hR.st.ext⟩,rfl⟩
 .match k,hg with
  | 0,hg=>
   cases hg;refine ⟨_,rfl,b1,us0,t0,rfl,rfl,x3,Ty.acs_rc _ (Ty.rp_keep _ (Ty.ofAcs_rp (okR:=imm ⟨w0.w,fun b=>b=b1⟩ ok w G) [] (fun _ h=>h) (fun id gh _ hn=>absurd rfl hn) S.vt _ us0 _ hv2 x4) (fun _ _=>rfl) hm)⟩
  | k+1,hg=>
   obtain ⟨id,h5,h6⟩:=hG' k gh hg;have hk:k<(ownAcs S.deep S.own 1 (S.rs.acs r)).2.length:=by rw[y3]; exact (aQ.1 h5).1
   refine ⟨(ownAcs S.deep S.own 1 (S.rs.acs r)).2[k],by simp[hk],?_⟩;have h7:=y4 k id _ h5 (aW hk);have h8:=ob_of hR h6;obtain ⟨e',xs,h9⟩:=q56 (dp:=S.deep) S.own 1 (S.rs.acs r) _ (aR hk);rcases q203 S.deep e' xs with hk' | hk'
   case inr=>rw[Env.ob,<- h7,h9,hk'] at h8; rw[h9,hk']; exact h8
   rw[Env.ob,<- h7,h9,hk'] at h8;rw[h9,hk'];exact RowR.mono h8 (fun _ _=>rfl) hm fun _ _=>rfl
 .match k,k',e1,e2 with
  | 0,0,_,_=>rfl
  | 0,k'+1,e1,e2=>
   cases e1;obtain ⟨id,h5,h6⟩:=hG' k' gh' e2;have:=hR.st.inj 0 id gv gh' b g1 h6 (.inl (by rw[g2]; exact Gh.has0.1 e3)) e4;exact absurd this.symm (hids id (List.mem_of_getElem? h5))
  | k+1,0,e1,e2=>
   cases e2;obtain ⟨id,h5,h6⟩:=hG' k gh e1;have:=hR.st.inj 0 id gv gh b g1 h6 (.inl (by rw[g2]; exact Gh.has0.1 e4)) e3;exact absurd this.symm (hids id (List.mem_of_getElem? h5))
  | k+1,k'+1,e1,e2=>
   obtain ⟨id,h5,h6⟩:=hG' k gh e1;obtain ⟨id',h7,h8⟩:=hG' k' gh' e2;have:=hR.st.inj id id' gh gh' b h6 h8 e3 e4;subst this;have:=(List.getElem?_inj (aQ.1 h5).1 y2).1 (h5.trans h7.symm);omega
 .match k,hg with
  | 0,hg=>
   cases hg;exact hR.st.low 0 gv b g1 (.inl (by rw[g2]; exact Gh.has0.1 hb))
  | k+1,hg=>
   obtain ⟨id,_,h6⟩:=hG' k gh hg;exact hR.st.low id gh b h6 hb
section
variable {C:Ctx} {N:Nat} {H:Hints} {Pre:World->Prop} {L:MarkL} {f:FuncId} {fn:Func}
theorem q659{S:VioSpec}(hs:Site P C Pre)(hT:∀ w,Pre w)(hL:∀ p∈L,MarkOk P p.1 p.2/\q18 P p.1)(hf:P.funcs[f]?=some fn)(h:∀ v x r,S.fn v x=some r->pevFnV P C L N H S fn v x=some r):VioOk P f S:=by
 intro w ds v v' x r ok bv us t hok hargs hbv hrv hx;have h1:=h v x (r,v') hx;unfold pevFnV at h1;split at h1
 case h_2=>cases h1
 rename_i c hc;have hp:Place P C Pre ⟨w,fun b=>b=bv⟩ ok:=⟨hs.calls,fun w' _=>hT w',fun b hb=>(hok b hb).1,fun w' _=>hs.tabs w' (hT w')⟩;obtain ⟨e,J',g1,g2,g3⟩:=q262 (H:=H) hp (q315 hL (q282 hs.ios (inl_ok (N:=N) hp.calls hp.pre hp.low hp.tabs hs.ios hs.mixed hs.inl 4))) hs.ios hs.mixed c 0 _ (fun e J=>retVio P S fn e ((J.mkOwn H.rets).mkOwnC H.retc)) (r,v') h1;refine calls_of_wp hf hc ?_
 let fv:Value := .func (.func 0) #[] #[pAt bv]
 let LG:List Gh:=[.mk0 (some bv) (.bool true),.mk0 none fv]
 let G:GM:=fun id=>LG[id]?
 have hlt:bv<w.heap.size:=(Array.getElem?_eq_some_iff.1 hbv).1;have gI:∀ id gh,G id=some gh->(id=0/\gh = .mk0 (some bv) (.bool true))\/(id=1/\gh = .mk0 none fv):=fun id gh hg=>by
  match id,hg with
  | 0,hg=>cases hg; exact .inl ⟨rfl,rfl⟩
  | 1,hg=>cases hg; exact .inr ⟨rfl,rfl⟩
  | n+2,hg=>simp[G,LG] at hg
 have gB:∀ id gh b,G id=some gh->gh.has b->id=0/\b=bv:=fun id gh b hg hb=>by
  rcases gI id gh hg with ⟨h,rfl⟩ | ⟨h,rfl⟩
  .exact ⟨h,(Option.some.inj (Gh.has0.1 hb)).symm⟩
  .exact absurd (Gh.has0.1 hb) (by simp)
 have hm:∀ b,ok b->imm ⟨w,fun b=>b=bv⟩ ok w G b:=fun b hb=>⟨.inl hb,(hok b hb).1,fun id gh hg hh=>(hok b hb).2 (gB id gh b hg hh).2⟩;obtain ⟨a1,a2⟩:=q550 (ok':=imm ⟨w,fun b=>b=bv⟩ ok w G) (G:=G) hm S.ps x ds hargs;have hall:∀(i:Nat)(q:AV)(u:Value),((.one (.vptr 0 0) :: S.ps.avs x:List AV))[i]?=some q->(pAt bv :: ds)[i]?=some u->RV w (imm ⟨w,fun b=>b=bv⟩ ok w G) G q u:=fun i q u hq hu=>by
  cases i with
  | zero=>simp at hq hu; subst hq hu; exact ⟨.mk0 (some bv) (.bool true),bv,rfl,rfl,rfl⟩
  | succ i=>exact a2 i q u (by simpa using hq) (by simpa using hu)
 have hal:((.one (.vptr 0 0) :: S.ps.avs x:List AV)).length=(pAt bv :: ds).toArray.size:=by simp[a1]
 have hR:Rel ⟨w,fun b=>b=bv⟩ ok (fun j=>if j=9 then fv else undef) (q278 S fn v x) { tmps:=(pAt bv :: ds).toArray++Array.replicate (fn.ntmps - (pAt bv :: ds).toArray.size) undef,defers:=[] } w G:=by
  refine ⟨by simp[q278,a1]; omega,fun i p u hp hu=>?_,rfl,⟨fun id gh hg=>?_,fun id id' gh gh' b e1 e2 e3 e4=>?_,fun id gh b hg hb=>?_,BExt.refl w _⟩,fun id p k l hp hk=>?_⟩
  .simp only[q278,List.getElem?_map,Option.map_eq_some_iff] at hp;obtain ⟨q,hq,rfl⟩:=hp;by_cases hi:i<(pAt bv :: ds).toArray.size
   .rw[aH (by rw[hal]; exact hi)] at hq;rw[Array.getElem?_append_left hi] at hu;exact hall i q u hq (by simpa using hu)
   .rw[List.getElem?_append_right (by omega),List.getElem?_replicate] at hq;rw[Array.getElem?_append_right (by omega),Array.getElem?_replicate] at hu;split at hq
    .split at hu
     .cases hq; cases hu; rfl
     .cases hu
    .cases hq
  .rcases gI id gh hg with ⟨rfl,rfl⟩ | ⟨rfl,rfl⟩
   .exact ⟨_,rfl,bv,us,t,rfl,rfl,hbv,Ty.acs_rc _ (Ty.rp_keep _ hrv (fun _ _=>rfl) hm)⟩
   .refine ⟨_,rfl,rfl,[pAt bv],rfl,rfl,fun i p u hp hu=>?_⟩
    match i,hp,hu with
    | 0,hp,hu=>cases hp; cases hu; exact ⟨.mk0 (some bv) (.bool true),bv,rfl,rfl,rfl⟩
    | n+1,hp,hu=>simp at hp
  .rw[(gB id gh b e1 e3).1,(gB id' gh' b e2 e4).1]
  .obtain ⟨_,rfl⟩:=gB id gh b hg hb;exact ⟨.inr rfl,hlt⟩
  .match id,hp with
   | 0,hp=>cases hp; cases hk
   | 1,hp=>cases hp; cases hk; exact ⟨_,rfl,(if_pos rfl).symm⟩
   | n+2,hp=>simp[q278] at hp
 refine g3 _ _ w _ _ hR fun a' w' G' hR'=>?_;have he:e = .normal\/e = .ret:=by cases e <;> first | exact .inl rfl | exact .inr rfl | cases g1
 obtain ⟨G0,hR0⟩:=hR'.mkOwn H.rets;obtain ⟨G1,hR1⟩:=hR0.mkOwnC H.retc;have g1':vioEnd P S fn ((J'.mkOwn H.rets).mkOwnC H.retc)=some (r,v'):=by rcases he with rfl | rfl <;> exact g1
 obtain ⟨V,hV,hres⟩:=q539 (w0:=⟨w,fun _=>False⟩) g1' hR1;rcases he with rfl | rfl
 .exact ⟨hR'.dfs,V,hV,V,rfl,hres⟩
 .exact ⟨hR'.dfs,V,hV,V,rfl,hres⟩
end
end
def VioSpec.data(S:VioSpec):VioSpec:=⟨S.vt,S.ps,S.rs,[],S.fn,S.deep⟩
theorem VioOk.data{P:Program}{f:FuncId}{S:VioSpec}(h:VioOk P f S):VioOk P f S.data:=by
 intro w ds v v' x r ok bv us t hok hargs hbv hrv hx;refine (h w ds v v' x r ok bv us t hok hargs hbv hrv hx).mono fun e w' ⟨V,he,G,vs,hV,hr,hst,hG0⟩=>?_
 let G':GM:=fun id=>match id with
  | 0=>G 0
  | _+1=>none
 have e0:G' 0=G 0:=rfl;have hG':∀ id gh,G' id=some gh->id=0/\G 0=some gh:=fun id gh hg=>by
  match id,hg with
  | 0,hg=>exact ⟨rfl,hg⟩
 have hm:∀ b,imm ⟨w,fun b=>b=bv⟩ ok w' G b->imm ⟨w,fun b=>b=bv⟩ ok w' G' b:=fun b hb=>⟨hb.1,hb.2.1,fun id gh hg=>hb.2.2 0 gh (hG' id gh hg).2⟩;refine ⟨V,he,G',vs,hV,?_,⟨fun id gh hg=>?_,fun id id' gh gh' b h1 h2 _ _=>?_,fun id gh b hg hb=>?_,hst.ext⟩,hG0⟩
 .show RCs w' _ G' (ownAcs S.deep [] 1 (S.rs.acs r)).1 vs;rw[q41];refine q365 (h:=(0,.var (S.vt.acs v')) :: (ownAcs S.deep S.own 1 (S.rs.acs r)).2) 1 hm (fun id gh hn hg=>?_) S.own (S.rs.acs r) vs 1 (Nat.le_refl _) (q111 _ _) (fun j p hj=>by rw[Nat.add_comm]; exact hj) hr;obtain ⟨p,hp,ho⟩:=hst.ob id gh hg;refine ⟨p,hp,ho,fun b hb=>⟨.inr (hst.low id gh b hg hb).1,(hst.low id gh b hg hb).2,fun id' gh' hg' hb'=>?_⟩⟩;obtain ⟨rfl,hg2⟩:=hG' id' gh' hg';have:=hst.inj id 0 gh gh' b hg hg2 hb hb';omega
 .obtain ⟨rfl,hg2⟩:=hG' id gh hg;obtain ⟨p,hp,ho⟩:=hst.ob 0 gh hg2;cases hp;refine ⟨_,rfl,?_⟩;obtain ⟨b,us',t',y1,y2,y3,y4⟩:=ho;exact ⟨b,us',t',y1,y2,y3,q365 (dp:=false) (h:=[]) ((0,.var (S.vt.acs v')) :: (ownAcs S.deep S.own 1 (S.rs.acs r)).2).length hm (fs:=[]) (cs:=S.vt.acs v') (vs:=us') (fun id gh hn hg=>by obtain ⟨p,hp,_⟩:=hst.ob id gh hg;exact absurd (aQ.1 hp).1 (by omega)) _ (Nat.le_refl _) (q111 _ _) (fun j p hj=>by rw[q41] at hj; simp at hj) (by rw[q41]; exact y4)⟩
 .rw[(hG' id gh h1).1,(hG' id' gh' h2).1]
 .obtain ⟨rfl,hg2⟩:=hG' id gh hg;exact hst.low 0 gh b hg2 hb
end Go.Proofs.YtcmhpcoiomdekaaGreatDoor
