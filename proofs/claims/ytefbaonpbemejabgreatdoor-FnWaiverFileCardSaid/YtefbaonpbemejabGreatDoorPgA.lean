/- Codes of plain data,what they stand for in Lean,and how data lies in memory. No condition of its own. A function's text carried out on plain data: the plain values that stand in the slots,the memory of the call's own,and the steps. No condition of its own. How what is known of slots and of the call's own memory stands to the frame and the world. No condition of its own. From data to what is known of cells,and back. No condition of its own. What the machine's operations do on memory that is known. No condition of its own. -/
import Derived.Calls
import Derived.Below
import Derived.Orders
import Derived.Laws.MakeOwn
import Derived.Laws.Append
import Derived.Laws.CopyRow
namespace Go.Proofs.YtefbaonpbemejabGreatDoor
theorem aa:type_of% @if_neg:=@if_neg
theorem ab:type_of% @List.getElem?_map:=@List.getElem?_map
theorem ae:type_of% @Option.map_eq_some_iff:=@Option.map_eq_some_iff
theorem af:type_of% @Nat.le_refl:=@Nat.le_refl
theorem ag:type_of% @Option.some.injEq:=@Option.some.injEq
theorem ah:type_of% @if_pos:=@if_pos
theorem ak:type_of% @Option.some.inj:=@Option.some.inj
theorem al:type_of% @List.eq_nil_of_length_eq_zero:=@List.eq_nil_of_length_eq_zero
theorem am:type_of% @Array.getD_eq_getD_getElem?:=@Array.getD_eq_getD_getElem?
theorem ao:type_of% @List.mem_of_getElem?:=@List.mem_of_getElem?
theorem ap:type_of% @List.all_eq_true:=@List.all_eq_true
theorem aq:type_of% @Nat.lt_of_lt_of_le:=@Nat.lt_of_lt_of_le
theorem ar:type_of% @List.length_set:=@List.length_set
theorem au:type_of% @Nat.mul_le_mul_right:=@Nat.mul_le_mul_right
theorem aw:type_of% @List.mem_cons:=@List.mem_cons
theorem ax:type_of% @decide_eq_true_eq:=@decide_eq_true_eq
theorem ay:type_of% @Array.getElem?_eq_getElem:=@Array.getElem?_eq_getElem
theorem az:type_of% @Array.getElem?_eq_some_iff:=@Array.getElem?_eq_some_iff
theorem aA:type_of% @Bool.or_eq_false_iff:=@Bool.or_eq_false_iff
theorem aB:type_of% @decide_eq_true:=@decide_eq_true
theorem aC:type_of% @List.getElem?_take:=@List.getElem?_take
theorem aJ:type_of% @List.length_map:=@List.length_map
theorem aK:type_of% @List.mem_range:=@List.mem_range
theorem aL:type_of% @Nat.blt_eq:=@Nat.blt_eq
theorem aM:type_of% @List.getElem?_append_right:=@List.getElem?_append_right
theorem aN:type_of% @List.mem_cons_of_mem:=@List.mem_cons_of_mem
theorem aO:type_of% @List.mem_cons_self:=@List.mem_cons_self
theorem aV:type_of% @Nat.beq_refl:=@Nat.beq_refl
theorem aX:type_of% @Array.getElem?_replicate:=@Array.getElem?_replicate
theorem aZ:type_of% @List.mem_append:=@List.mem_append
theorem b7:type_of% @Nat.lt_or_ge:=@Nat.lt_or_ge
theorem b8:type_of% @List.length_take:=@List.length_take
theorem ba:type_of% @Bool.or_eq_true:=@Bool.or_eq_true
theorem bb:type_of% @Bool.not_eq_true':=@Bool.not_eq_true'
theorem bc:type_of% @List.getElem_of_mem:=@List.getElem_of_mem
theorem bd:type_of% @List.not_mem_nil:=@List.not_mem_nil
theorem bf:type_of% @List.take_append_drop:=@List.take_append_drop
theorem bg:type_of% @List.singleton_inj:=@List.singleton_inj
theorem bh:type_of% @Option.isNone_iff_eq_none:=@Option.isNone_iff_eq_none
theorem bj:type_of% @List.getElem?_drop:=@List.getElem?_drop
theorem bm:type_of% @List.getElem?_append:=@List.getElem?_append
theorem bn:type_of% @Nat.le_trans:=@Nat.le_trans
theorem bo:type_of% @decide_eq_false:=@decide_eq_false
theorem bp:type_of% @Option.isSome_iff_exists:=@Option.isSome_iff_exists
theorem bq:type_of% @List.mem_map:=@List.mem_map
theorem br:type_of% @Nat.not_lt_zero:=@Nat.not_lt_zero
theorem bt:type_of% @List.append_assoc:=@List.append_assoc
theorem bu:type_of% @List.countP_le_length:=@List.countP_le_length
theorem bz:type_of% @List.mem_singleton:=@List.mem_singleton
theorem bA:type_of% @Nat.lt_trichotomy:=@Nat.lt_trichotomy
theorem bB:type_of% @List.contains_iff_mem:=@List.contains_iff_mem
theorem bC:type_of% @Nat.mul_le_mul:=@Nat.mul_le_mul
theorem bD:type_of% @List.map_append:=@List.map_append
theorem bE:type_of% @Nat.add_sub_cancel_left:=@Nat.add_sub_cancel_left
theorem bF:type_of% @Int.le_refl:=@Int.le_refl
theorem bG:type_of% @List.map_congr_left:=@List.map_congr_left
theorem bH:type_of% @List.getElem?_range:=@List.getElem?_range
theorem bI:type_of% @List.mem_mapIdx:=@List.mem_mapIdx
theorem bJ:type_of% @List.getElem?_replicate:=@List.getElem?_replicate
theorem bK:type_of% @List.countP_append:=@List.countP_append
theorem bL:type_of% @List.getElem_append_right:=@List.getElem_append_right
theorem bM:type_of% @of_decide_eq_true:=@of_decide_eq_true
theorem bN:type_of% @List.getElem_append_left:=@List.getElem_append_left
theorem bO:type_of% @Bool.and_eq_true:=@Bool.and_eq_true
theorem bP:type_of% @List.getElem_map:=@List.getElem_map
theorem bQ:type_of% @List.length_drop:=@List.length_drop
theorem bR:type_of% @Nat.le_of_ble_eq_true:=@Nat.le_of_ble_eq_true
theorem bS:type_of% @Bool.not_eq_false':=@Bool.not_eq_false'
theorem aQ{B : Type _}{l : List B}{i : Nat}{a : B} : l[i]? = some a ↔ ∃ h : i < l.length, l[i] = a := List.getElem?_eq_some_iff
theorem aW{B : Type _}{l : List B}{i : Nat}(h : i < l.length) : l[i]? = some l[i] := List.getElem?_eq_getElem h
theorem aE(n : Nat) : (n : Int).toNat = n := Int.toNat_natCast n
theorem aR{B : Type _}{l : List B}{n : Nat}(h : n < l.length) : l[n]'h ∈ l := List.getElem_mem h
theorem aT(a b : Bool) : ((a && b) = true) = (a = true /\ b = true) := bO a b
theorem aS{B : Type _}{a : B} : [a].length = 1 := List.length_singleton
theorem aD{B : Type _}{n : Nat}{a : B} : (List.replicate n a).length = n := List.length_replicate
theorem aF{B : Type _}{a : B}{as : List B} : (a :: as).length = as.length + 1 := List.length_cons
theorem aG{B : Type _}{l : List B}{i : Nat}(h : l.length <= i) : l[i]? = none := List.getElem?_eq_none h
theorem aH{B : Type _}{a b : List B}{i : Nat}(h : i < a.length) : (a ++ b)[i]? = a[i]? := List.getElem?_append_left h
theorem aP{B : Type _}{l : List B} : l.take l.length = l := List.take_length
theorem aY{B : Type _}{as bs : List B} : (as ++ bs).length = as.length + bs.length := List.length_append
theorem aU{n m : Nat} : Nat.beq n m = true -> n = m := Nat.eq_of_beq_eq_true
theorem aI{B : Type _}{i : Nat}{l : List B}(h : i < l.length) : l.take (i + 1) = l.take i ++ [l[i]] := List.take_succ_eq_append_getElem h
set_option linter.unusedSimpArgs false
set_option linter.unusedVariables false
open Go.RowKit
inductive Ty where
 | int (k:IntKind)
 | bool
 | str
 | slice (e:Ty)
 | ptr (e:Ty)
 | agg (t:Ty)
 | nil
 | pair (a b:Ty)
 | clo (g:FuncId) (t:Ty)
 | map (e:Ty)
 deriving DecidableEq,Inhabited
def Ty.isAgg:Ty->Bool
 | .agg _=>true
 | _=>false
def pack1(E:Ty)(cs:List Value):Value:=if E.isAgg then .agg cs.toArray else cs.headD undef
@[reducible] def Ty.den:Ty->Type
 | .int _=>Int
 | .bool=>Bool
 | .str=>ByteArray
 | .slice e=>List e.den
 | .ptr e=>Option e.den
 | .agg t=>t.den
 | .nil=>Unit
 | .pair a b=>a.den×b.den
 | .clo _ t=>t.den
 | .map e=>List (Int×e.den)
def Ty.sz:Ty->Nat
 | .agg t=>t.sz
 | .nil=>0
 | .pair a b=>a.sz+b.sz
 | _=>1
def q39(w:World)(b o:Nat)(us:List Value):Prop:=∀ j u,us[j]?=some u->w.cell? ⟨b,o+j,none⟩=some u
def Ty.rp:(E:Ty)->World->(Nat->Prop)->List Value->E.den->Prop
 | .int k,_,_,cs,x=>cs=[.int k x]/\(Lit.int k x).wf=true
 | .bool,_,_,cs,x=>cs=[.bool x]
 | .str,_,_,cs,x=>cs=[.string x]/\x.size<=maxLen
 | .slice e,w,ok,cs,xs=>∃ A cap,cs=[.slice A xs.length cap]/\xs.length<=cap/\cap<=maxLen/\
  (0<xs.length->∃ b o,A=some ⟨b,o,none⟩/\ok b/\∀(i:Nat)(h:i<xs.length),∃ us,e.rp w ok us xs[i]/\q39 w b (o+i * e.sz) us)
 | .ptr _,_,_,cs,none=>cs=[.pointer none]
 | .ptr e,w,ok,cs,some x=>∃ b o us,cs=[.pointer (some ⟨b,o,none⟩)]/\ok b/\e.rp w ok us x/\q39 w b o us
 | .agg t,w,ok,cs,x=>t.rp w ok cs x
 | .nil,_,_,cs,_=>cs=[]
 | .pair a b,w,ok,cs,x=>∃ c1 c2,cs=c1++c2/\a.rp w ok c1 x.1/\b.rp w ok c2 x.2
 | .clo g t,w,ok,cs,x=>∃ us:List Value,cs=[.func (.func g) #[] us.toArray]/\t.rp w ok us x
 | .map e,w,ok,cs,xs=>∃ b es clock,cs=[.map (some b)]/\ok b/\w.heap[b]?=some (.map es clock)/\es.size=xs.length/\
  ∀(i:Nat)(h:i<xs.length),∃ m us,es[i]?=some m/\m.key = .int .i64 xs[i].1/\e.rp w ok us xs[i].2/\m.val=pack1 e us
theorem q39.keep{w w':World}{b o:Nat}{us:List Value}(h:q39 w b o us)(hk:w'.heap[b]?=w.heap[b]?):q39 w' b o us:=
 fun j u hu=>(World.cell?_of_block (w:=w) hk).trans (h j u hu)
theorem Ty.rp_len:∀(E:Ty){w:World}{ok:Nat->Prop}{cs:List Value}{x:E.den},E.rp w ok cs x->cs.length=E.sz
 | .int _,_,_,_,_,h=>by rw[h.1]; rfl
 | .bool,_,_,_,_,h=>by rw[show _=_ from h]; rfl
 | .str,_,_,_,_,h=>by rw[h.1]; rfl
 | .slice _,_,_,_,_,h=>by obtain ⟨_,_,rfl,_⟩:=h; rfl
 | .ptr _,_,_,_,none,h=>by rw[show _=_ from h]; rfl
 | .ptr _,_,_,_,some _,h=>by obtain ⟨_,_,_,rfl,_⟩:=h; rfl
 | .agg t,_,_,_,_,h=>t.rp_len h
 | .nil,_,_,_,_,h=>by rw[show _=_ from h]; rfl
 | .pair a b,_,_,_,_,h=>by obtain ⟨c1,c2,rfl,h1,h2⟩:=h;rw[aY,a.rp_len h1,b.rp_len h2]; rfl
 | .clo _ _,_,_,_,_,h=>by obtain ⟨_,rfl,_⟩:=h; rfl
 | .map _,_,_,_,_,h=>by obtain ⟨_,_,_,rfl,_⟩:=h; rfl
theorem Ty.rp_keep:∀(E:Ty){w w':World}{ok ok':Nat->Prop}{cs:List Value}{x:E.den},E.rp w ok cs x->(∀ b,ok b->w'.heap[b]?=w.heap[b]?)->(∀ b,ok b->ok' b)->E.rp w' ok' cs x
 | .int _,_,_,_,_,_,_,h,_,_=>h
 | .bool,_,_,_,_,_,_,h,_,_=>h
 | .str,_,_,_,_,_,_,h,_,_=>h
 | .slice e,_,_,_,_,_,_,h,hk,hm=>by obtain ⟨A,cap,rfl,h1,h2,h3⟩:=h;refine ⟨A,cap,rfl,h1,h2,fun h0=>?_⟩;obtain ⟨b,o,rfl,hb,hc⟩:=h3 h0;refine ⟨b,o,rfl,hm b hb,fun i hi=>?_⟩;obtain ⟨us,hr,hcs⟩:=hc i hi;exact ⟨us,e.rp_keep hr hk hm,hcs.keep (hk b hb)⟩
 | .ptr _,_,_,_,_,_,none,h,_,_=>h
 | .ptr e,_,_,_,_,_,some _,h,hk,hm=>by obtain ⟨b,o,us,rfl,hb,hr,hcs⟩:=h;exact ⟨b,o,us,rfl,hm b hb,e.rp_keep hr hk hm,hcs.keep (hk b hb)⟩
 | .agg t,_,_,_,_,_,_,h,hk,hm=>t.rp_keep h hk hm
 | .nil,_,_,_,_,_,_,h,_,_=>h
 | .pair a b,_,_,_,_,_,_,h,hk,hm=>by obtain ⟨c1,c2,rfl,h1,h2⟩:=h;exact ⟨c1,c2,rfl,a.rp_keep h1 hk hm,b.rp_keep h2 hk hm⟩
 | .clo _ t,_,_,_,_,_,_,h,hk,hm=>by obtain ⟨us,rfl,h1⟩:=h;exact ⟨us,rfl,t.rp_keep h1 hk hm⟩
 | .map e,_,_,_,_,_,_,h,hk,hm=>by obtain ⟨b,es,clock,rfl,hb,h1,h2,h3⟩:=h;refine ⟨b,es,clock,rfl,hm b hb,(hk b hb).trans h1,h2,fun i hi=>?_⟩;obtain ⟨m,us,g1,g2,g3,g4⟩:=h3 i hi;exact ⟨m,us,g1,g2,e.rp_keep g3 hk hm,g4⟩
theorem Ty.rp_one:∀(E:Ty){w:World}{ok:Nat->Prop}{cs:List Value}{x:E.den},E.rp w ok cs x->∀ v∈cs,v.oneCell'=true
 | .int _,_,_,_,_,h=>by rw[h.1]; simp; rfl
 | .bool,_,_,_,_,h=>by rw[show _=_ from h]; simp; rfl
 | .str,_,_,_,_,h=>by rw[h.1]; simp; rfl
 | .slice _,_,_,_,_,h=>by obtain ⟨_,_,rfl,_⟩:=h; simp; rfl
 | .ptr _,_,_,_,none,h=>by rw[show _=_ from h]; simp; rfl
 | .ptr _,_,_,_,some _,h=>by obtain ⟨_,_,_,rfl,_⟩:=h; simp; rfl
 | .agg t,_,_,_,_,h=>t.rp_one h
 | .nil,_,_,_,_,h=>by rw[show _=_ from h]; simp
 | .pair a b,_,_,_,_,h=>by
  obtain ⟨c1,c2,rfl,h1,h2⟩:=h;intro v hv;rcases aZ.1 hv with hv | hv
  .exact a.rp_one h1 v hv
  .exact b.rp_one h2 v hv
 | .clo _ _,_,_,_,_,h=>by obtain ⟨_,rfl,_⟩:=h; simp; rfl
 | .map _,_,_,_,_,h=>by obtain ⟨_,_,_,rfl,_⟩:=h; simp; rfl
def Ty.castD{a b:Ty}(x:a.den):Option b.den:=if h:a=b then some (h ▸ x) else none
def Ty.castL{a b:Ty}(x:List a.den):Option (List b.den):=if h:a=b then some (h ▸ x) else none
def Ty.castO{a b:Ty}(x:Option a.den):Option (Option b.den):=if h:a=b then some (h ▸ x) else none
theorem Ty.castD_eq{a b:Ty}{x:a.den}{y:b.den}(h:Ty.castD x=some y):∃ e:a=b,y=e ▸ x:=by
 unfold Ty.castD at h;split at h
 .rename_i e; exact ⟨e,by simpa using h.symm⟩
 .cases h
theorem Ty.castL_self{a:Ty}(x:List a.den):Ty.castL (b:=a) x=some x:=by unfold Ty.castL; rw[dif_pos rfl]
theorem Ty.castL_eq{a b:Ty}{x:List a.den}{y:List b.den}(h:Ty.castL x=some y):∃ e:a=b,y=e ▸ x:=by
 unfold Ty.castL at h;split at h
 .rename_i e; exact ⟨e,by simpa using h.symm⟩
 .cases h
theorem Ty.castO_eq{a b:Ty}{x:Option a.den}{y:Option b.den}(h:Ty.castO x=some y):∃ e:a=b,y=e ▸ x:=by
 unfold Ty.castO at h;split at h
 .rename_i e; exact ⟨e,by simpa using h.symm⟩
 .cases h
inductive Cap where
 | vptr (id off:Nat)
 | own (id:Nat)
 | dat (E:Ty) (x:E.den)
 deriving Inhabited
inductive AC where
 | bad
 | und
 | int (k:IntKind) (n:Int)
 | bool (b:Bool)
 | str (s:ByteArray)
 | slc (e:Ty) (xs:List e.den)
 | nils
 | nilp
 | ptr (e:Ty) (p:Option e.den)
 | own (id:Nat)
 | vptr (id off:Nat)
 | eptr (id:Nat) (e:Ty) (i off:Nat)
 | dptr (e:Ty) (x:e.den) (off:Nat)
 | clo (g:FuncId) (t:Ty) (x:t.den)
 | cloA (g:FuncId) (cs:List Cap)
 | inn (id i:Nat)
 | sln (e:Ty) (xs:List e.den)
 | slz (e:Ty)
 | osub (id:Nat) (e:Ty) (lo:Nat)
 | opre (id:Nat) (e:Ty) (n:Nat)
 | gl (g:Nat)
 | gidx (g i:Nat)
 | gsl (g n:Nat)
 | mp (e:Ty) (xs:List (Int×e.den))
 | nilf
 | pin (id:Nat) (e:Ty) (i off:Nat) (p:Option (Ty×Nat×Nat))
 deriving Inhabited
inductive AV where
 | one (c:AC)
 | agg (cs:List AC)
 | tup (vs:List (Bool×List AC))
 deriving Inhabited
inductive Ob where
 | var (cs:List AC)
 | row (e:Ty) (xs:List e.den)
 | gone
 | frame (k:Nat) (l:List (Nat×AV))
 | tree (e:Ty) (xs:List (List e.den)) (p:Option Nat)
 | drow (e:Ty) (xs:List e.den)
 | map (e:Ty) (xs:List (Int×e.den))
 | crow (e:Ty) (cs:List AC)
 deriving Inhabited
structure Env where
 t:List (Nat×AV)
 h:List (Nat×Ob)
def nth{B:Type}:List B->Nat->B->B
 | [],_,d=>d
 | a :: _,0,_=>a
 | _ :: l,n+1,d=>nth l n d
def setN{B:Type}:List B->Nat->B->List B
 | [],_,_=>[]
 | _ :: l,0,b=>b :: l
 | a :: l,n+1,b=>a :: setN l n b
def sub{B:Type}(l:List B)(off n:Nat):List B:=(l.drop off).take n
def putN{B:Type}:List B->Nat->List B->List B
 | l,_,[]=>l
 | l,o,b :: bs=>putN (setN l o b) (o+1) bs
def obind{B M:Type}:Option B->(B->Option M)->Option M
 | none,_=>none
 | some x,k=>k x
def atI{B:Type}(xs:List B)(i:Int):Option B:=bif decide (0<=i) then xs[i.toNat]? else none
def inI(i:Int)(n:Nat):Bool:=decide (0<=i) && decide (i<n)
def byteAt(s:ByteArray)(i:Int):Option Int:=bif decide (0<=i) then (s.data.toList[i.toNat]?).map (fun b=>(b.toNat:Int)) else none
def lim:Nat:=4294967296
def limS:Nat:=140737488355328
def fixN{S M:Type}:Nat->((S->Option M)->S->Option M)->S->Option M
 | 0,_,_=>none
 | n+1,f,s=>f (fixN n f) s
def Ty.acs:(E:Ty)->E.den->List AC
 | .int k,n=>[.int k n]
 | .bool,b=>[.bool b]
 | .str,s=>[.str s]
 | .slice e,xs=>[.slc e xs]
 | .ptr e,p=>[.ptr e p]
 | .agg t,x=>t.acs x
 | .nil,_=>[]
 | .pair a b,x=>a.acs x.1++b.acs x.2
 | .clo g t,x=>[.clo g t x]
 | .map e,xs=>[.mp e xs]
def Ty.av:(E:Ty)->E.den->AV
 | .int k,n => .one (.int k n)
 | .bool,b => .one (.bool b)
 | .str,s => .one (.str s)
 | .slice e,xs => .one (.slc e xs)
 | .ptr e,p => .one (.ptr e p)
 | .agg t,x => .agg (t.acs x)
 | .nil,_ => .agg []
 | .pair a b,x => .agg (a.acs x.1++b.acs x.2)
 | .clo g t,x => .one (.clo g t x)
 | .map e,xs => .one (.mp e xs)
def Ty.avs:(E:Ty)->E.den->List AV
 | .pair a b,x=>a.av x.1 :: b.avs x.2
 | _,_=>[]
def ofInt(k:IntKind):List AC->Option Int
 | [.int k' n]=>bif decide (k'=k) then some n else none
 | _=>none
def ofBool:List AC->Option Bool
 | [.bool b]=>some b
 | _=>none
def ofStr:List AC->Option ByteArray
 | [.str s]=>some s
 | _=>none
def q192(h:List (Nat×Ob))(e:Ty):List AC->Option (List e.den)
 | [.slc _ xs]=>Ty.castL (b:=e) xs
 | [.nils]=>some []
 | [.own id]=>match (nth h id (0,.gone)).2 with
  | .row _ xs=>Ty.castL (b:=e) xs
  | .drow _ xs=>Ty.castL (b:=e) xs
  | _=>none
 | _=>none
def ofPtr(h:List (Nat×Ob))(e:Ty)(rec:List AC->Option e.den):List AC->Option (Option e.den)
 | [.ptr _ p]=>Ty.castO (b:=e) p
 | [.nilp]=>some none
 | [.vptr id off]=>match (nth h id (0,.gone)).2 with
  | .var cs=>(rec (sub cs off e.sz)).map some
  | _=>none
 | [.dptr e' x off]=>(rec (sub (e'.acs x) off e.sz)).map some
 | _=>none
def ofClo(g:FuncId)(t:Ty):List AC->Option t.den
 | [.clo g' _ x]=>bif Nat.beq g' g then Ty.castD (b:=t) x else none
 | _=>none
def ofMap(h:List (Nat×Ob))(e:Ty):List AC->Option (List (Int×e.den))
 | [.mp e' xs]=>Ty.castD (a := .map e') (b := .map e) xs
 | [.own id]=>match (nth h id (0,.gone)).2 with
  | .map e' xs=>Ty.castD (a := .map e') (b := .map e) xs
  | _=>none
 | _=>none
def ofNil:List AC->Option Unit
 | []=>some ()
 | _=>none
def both{B G:Type}:Option B->Option G->Option (B×G)
 | some x,some y=>some (x,y)
 | _,_=>none
def Ty.ofAcs(h:List (Nat×Ob)):(E:Ty)->List AC->Option E.den
 | .int k,cs=>ofInt k cs
 | .bool,cs=>ofBool cs
 | .str,cs=>ofStr cs
 | .slice e,cs=>q192 h e cs
 | .ptr e,cs=>ofPtr h e (fun ds=>e.ofAcs h ds) cs
 | .agg t,cs=>t.ofAcs h cs
 | .nil,cs=>ofNil cs
 | .pair a b,cs=>both (a.ofAcs h (cs.take a.sz)) (b.ofAcs h (cs.drop a.sz))
 | .clo g t,cs=>ofClo g t cs
 | .map e,cs=>ofMap h e cs
def AV.cells:AV->List AC
 | .one c=>[c]
 | .agg cs=>cs
 | _=>[.bad]
def AV.isAgg:AV->Bool
 | .agg _=>true
 | _=>false
def acOf:Value->AC
 | .int k n=>bif (Lit.int k n).wf then .int k n else .bad
 | .bool b => .bool b
 | .string s=>bif decide (s.size<=maxLen) then .str s else .bad
 | .pointer none => .nilp
 | .slice none 0 0 => .nils
 | .nilFunc => .nilf
 | _ => .bad
def avOf:Value->AV
 | .agg cs => .agg (cs.toList.map acOf)
 | v => .one (acOf v)
def Env.ev(σ:Env):Operand->AV
 | .tmp i=>(nth σ.t i (0,.one .bad)).2
 | .const v=>avOf v
 | .func f => .one (.clo f .nil ())
 | .global g => .one (.gl g)
def Env.put(σ:Env)(d:Option Nat)(v:AV):Env:=match d with
 | none=>σ
 | some i=>{ σ with t:=setN σ.t i ((nth σ.t i (0,.one .bad)).1+1,v) }
def Env.refine(σ:Env)(x:Operand)(b:Bool):Env:=match x with
 | .tmp i=>{ σ with t:=setN σ.t i ((nth σ.t i (0,.one .bad)).1,.one (.bool b)) }
 | _=>σ
def Env.ob(σ:Env)(id:Nat):Ob:=(nth σ.h id (0,.gone)).2
def Env.setOb(σ:Env)(id:Nat)(ob:Ob):Env:={ σ with h:=setN σ.h id ((nth σ.h id (0,.gone)).1+1,ob) }
def Env.newOb(σ:Env)(ob:Ob):Env:={ σ with h:=σ.h++[(0,ob)] }
def Cap.has(id:Nat):Cap->Bool
 | .vptr i _=>Nat.beq i id
 | .own i=>Nat.beq i id
 | .dat _ _=>false
def Cap.below(n:Nat):Cap->Bool
 | .vptr i _=>Nat.blt i n
 | .own i=>Nat.blt i n
 | .dat _ _=>true
def AC.kill(id:Nat):AC->AC
 | .own i=>bif Nat.beq i id then .bad else .own i
 | .eptr i e k o=>bif Nat.beq i id then .bad else .eptr i e k o
 | .vptr i o=>bif Nat.beq i id then .bad else .vptr i o
 | .cloA g cs=>bif cs.any (Cap.has id) then .bad else .cloA g cs
 | .inn i k=>bif Nat.beq i id then .bad else .inn i k
 | .pin i e k o p=>bif Nat.beq i id then .bad else .pin i e k o p
 | .osub i e k=>bif Nat.beq i id then .bad else .osub i e k
 | .opre i e k=>bif Nat.beq i id then .bad else .opre i e k
 | c=>c
def AC.good:AC->Bool
 | .bad=>false
 | .und=>false
 | _=>true
def AV.mapC(f:AC->AC):AV->AV
 | .one c => .one (f c)
 | .agg cs => .agg (cs.map f)
 | .tup vs => .tup (vs.map fun p=>(p.1,p.2.map f))
def Ob.mapC(f:AC->AC):Ob->Ob
 | .var cs => .var (cs.map f)
 | .frame k l => .frame k (l.map fun p=>(p.1,p.2.mapC f))
 | .row e xs => .row e xs
 | .tree e xs p => .tree e xs p
 | .drow e xs => .drow e xs
 | .map e xs => .map e xs
 | .crow e cs => .crow e (cs.map f)
 | .gone => .gone
def Env.mapC(σ:Env)(f:AC->AC):Env:=⟨σ.t.map fun p=>(p.1,p.2.mapC f),σ.h.map fun p=>(p.1,p.2.mapC f)⟩
def AC.has(id:Nat):AC->Bool
 | .own i=>Nat.beq i id
 | .eptr i _ _ _=>Nat.beq i id
 | .vptr i _=>Nat.beq i id
 | .cloA _ cs=>cs.any (Cap.has id)
 | .inn i _=>Nat.beq i id
 | .pin i _ _ _ _=>Nat.beq i id
 | .osub i _ _=>Nat.beq i id
 | .opre i _ _=>Nat.beq i id
 | _=>false
def AC.hasI(id:Nat):AC->Bool
 | .inn i _=>Nat.beq i id
 | .pin i _ _ _ _=>Nat.beq i id
 | _=>false
def AC.killI(id:Nat):AC->AC
 | .inn i k=>bif Nat.beq i id then .bad else .inn i k
 | .pin i e k o p=>bif Nat.beq i id then .bad else .pin i e k o p
 | c=>c
def AV.anyC(f:AC->Bool):AV->Bool
 | .one c=>f c
 | .agg cs=>cs.any f
 | .tup vs=>vs.any fun p=>p.2.any f
def Ob.anyC(f:AC->Bool):Ob->Bool
 | .var cs=>cs.any f
 | .crow _ cs=>cs.any f
 | .frame _ l=>l.any fun p=>p.2.anyC f
 | _=>false
def Env.kill(σ:Env)(id:Nat):Env:=
 ⟨σ.t.map fun p=>bif p.2.anyC (AC.has id) then (p.1+1,p.2.mapC (AC.kill id)) else p,σ.h.map fun p=>bif p.2.anyC (AC.has id) then (p.1+1,p.2.mapC (AC.kill id)) else p⟩
def swn(r k i:Nat):Nat:=bif Nat.beq i r then k else bif Nat.beq i k then r else i
def hasRK(r k:Nat)(c:AC):Bool:=c.has r || c.has k
def AC.swp(r k:Nat):AC->AC
 | .own i => .own (swn r k i)
 | c=>bif hasRK r k c then .bad else c
def swpPut(h:List (Nat×Ob))(r k:Nat):List (Nat×Ob):=setN (setN h r ((nth h r (0,.gone)).1+1,(nth h k (0,.gone)).2)) k ((nth h k (0,.gone)).1+1,(nth h r (0,.gone)).2)
def Env.swp(σ:Env)(r k:Nat):Env:=bif Nat.beq r k || !(Nat.blt r σ.h.length && Nat.blt k σ.h.length) then σ else
 ⟨σ.t.map fun p=>bif p.2.anyC (hasRK r k) then (p.1+1,p.2.mapC (AC.swp r k)) else p,
  swpPut (σ.h.map fun p=>bif p.2.anyC (hasRK r k) then (p.1+1,p.2.mapC (AC.swp r k)) else p) r k⟩
def Env.ren(σ:Env):List (Nat×Nat×Nat)->Env
 | []=>σ
 | (id,j,r) :: l=>match σ.ob id with
  | .var cs=>match nth cs j .bad with
   | .own k=>Env.ren (σ.swp r k) l
   | _=>Env.ren σ l
  | _=>Env.ren σ l
def Env.killI(σ:Env)(id:Nat):Env:=
 ⟨σ.t.map fun p=>bif p.2.anyC (AC.hasI id) then (p.1+1,p.2.mapC (AC.killI id)) else p,σ.h.map fun p=>bif p.2.anyC (AC.hasI id) then (p.1+1,p.2.mapC (AC.killI id)) else p⟩
def AC.swap(id:Nat)(c:AC)(f:Nat->AC):AC->AC
 | .own i=>bif Nat.beq i id then c else .own i
 | .eptr i e k o=>bif Nat.beq i id then .bad else .eptr i e k o
 | .vptr i o=>bif Nat.beq i id then f o else .vptr i o
 | .cloA g cs=>bif cs.any (Cap.has id) then .bad else .cloA g cs
 | .inn i k=>bif Nat.beq i id then .bad else .inn i k
 | .pin i e k o p=>bif Nat.beq i id then .bad else .pin i e k o p
 | .osub i e k=>bif Nat.beq i id then .bad else .osub i e k
 | .opre i e k=>bif Nat.beq i id then .bad else .opre i e k
 | d=>d
def Env.swap(σ:Env)(id:Nat)(c:AC)(f:Nat->AC):Env:=
 Env.setOb ⟨σ.t.map fun p=>bif p.2.anyC (AC.has id) then (p.1+1,p.2.mapC (AC.swap id c f)) else p,σ.h.map fun p=>bif p.2.anyC (AC.has id) then (p.1+1,p.2.mapC (AC.swap id c f)) else p⟩ id .gone
def Env.freeze(σ:Env)(z:Nat×Option Ty):Option Env:=match (nth σ.t z.1 (0,.one .bad)).2 with
 | .one (.own id)=>match σ.ob id with
  | .row e xs=>some (σ.swap id (.slc e xs) fun _ => .bad)
  | .tree e xs none=>some (σ.swap id (.slc (.slice e) xs) fun _ => .bad)
  | .drow e xs=>some (σ.swap id (.slc e xs) fun _ => .bad)
  | .map e xs=>some (σ.swap id (.mp e xs) fun _ => .bad)
  | _=>none
 | .one (.opre id _ n)=>match σ.ob id with
  | .row e xs=>some ((((σ.kill id).setOb id (.row e (xs.take n))).put (some z.1) (.one (.own id))).swap id (.slc e (xs.take n)) fun _ => .bad)
  | _=>none
 | .one (.vptr id _)=>match z.2,σ.ob id with
  | some e,.var cs=>match e.ofAcs [] cs with
   | some x=>some (σ.swap id .bad fun o => .dptr e x o)
   | none=>none
  | _,_=>none
 | _=>some σ
def Env.freezes(σ:Env):List (Nat×Option Ty)->Option Env
 | []=>some σ
 | z :: zs=>match σ.freeze z with
  | some σ'=>Env.freezes σ' zs
  | none=>none
structure FnSpec where
 ps:Ty
 rs:Ty
 own:List Bool
 fn:ps.den->Option rs.den
 deep:Bool:=false
def Ty.flat:Ty->Bool
 | .slice _=>false
 | .ptr _=>false
 | .clo _ _=>false
 | .map _=>false
 | .agg t=>t.flat
 | .pair a b=>a.flat && b.flat
 | _=>true
def Ty.simple:Ty->Bool
 | .slice e=>e.simple
 | .ptr _=>false
 | .clo _ _=>false
 | .map _=>false
 | .agg t=>t.simple
 | .pair a b=>a.simple && b.simple
 | _=>true
def Ty.proper:Ty->Bool
 | .pair _ _=>false
 | .nil=>false
 | _=>true
def q51:Ty->Bool
 | .pair a b=>a.proper && q51 b
 | .nil=>true
 | _=>false
abbrev CtxL:=List ((FuncId×List FuncId)×FnSpec)
def keyEq:List FuncId->List FuncId->Bool
 | [],[]=>true
 | a :: as,b :: bs=>Nat.beq a b && keyEq as bs
 | _,_=>false
def CtxL.find:CtxL->FuncId->List FuncId->Option FnSpec
 | [],_,_=>none
 | (g,s) :: r,f,k=>bif Nat.beq g.1 f && keyEq g.2 k then some s else CtxL.find r f k
inductive ShI where
 | tmp (i:Nat) (E:Ty)
 | var (id:Nat) (ks:List (Option Ty))
 | row (id:Nat) (e:Ty)
 | tree (id:Nat) (e:Ty)
 | drow (id:Nat) (e:Ty)
 | map (id:Nat) (e:Ty)
structure LHint where
 sh:List ShI
 drop:List Nat
 fresh:List (Nat×Ty)
 cells:List (Nat×Nat×Ty):=[]
 ren:List (Nat×Nat×Nat):=[]
structure Hints where
 loops:List (Nat×LHint)
 frz:List (Nat×List (Nat×Option Ty))
 rets:List (Nat×Ty)
 retc:List (Nat×Nat×Ty):=[]
structure InF where
 fid:FuncId
 fn:Func
 H:Hints
 raw:List Nat
 drop:Bool:=false
structure IoSpec where
 ps:Ty
 io:List Bool
 rs:Ty
 ro:Ty
 fn:ps.den->Option (rs.den×ro.den)
structure RSpec where
 e:Ty
 fn:List e.den->Option (List e.den)
 keep:Bool:=false
structure RecSpec where
 ps:Ty
 wt:Ty
 e:Ty
 fn:ps.den->wt.den->List e.den->Option (wt.den×List e.den)
structure VioSpec where
 vt:Ty
 ps:Ty
 rs:Ty
 own:List Bool
 fn:vt.den->ps.den->Option (rs.den×vt.den)
 deep:Bool:=false
inductive HookS where
 | io (S:IoSpec)
 | row (S:RSpec)
 | rc (S:RecSpec)
 | vio (S:VioSpec)
abbrev HookL:=List (FuncId×HookS)
def HookL.find:HookL->FuncId->Option HookS
 | [],_=>none
 | (g,s) :: r,f=>bif Nat.beq g f then some s else HookL.find r f
structure Ctx where
 fns:CtxL
 raw:List Nat
 inl:List InF:=[]
 tabs:List (Nat×List ByteArray):=[]
 io:HookL:=[]
def q233:List (Nat×List ByteArray)->Nat->Option (List ByteArray)
 | [],_=>none
 | (k,xs) :: l,g=>bif Nat.beq k g then some xs else q233 l g
def Ctx.isRaw(C:Ctx):Option Nat->Bool
 | some d=>C.raw.any fun e=>Nat.beq e d
 | none=>false
def keyOf:List AC->List FuncId
 | []=>[]
 | .clo g _ _ :: cs=>g :: keyOf cs
 | _ :: cs=>keyOf cs
def mkRow(d:Bool)(e:Ty)(xs:List e.den):Ob:=bif d && !e.flat then .drow e xs else .row e xs
def ownAcs(dp:Bool):List Bool->Nat->List AC->List AC×List (Nat×Ob)
 | true :: fs,id,.slc e xs :: cs=>let r:=ownAcs dp fs (id+1) cs; (.own id :: r.1,(0,mkRow dp e xs) :: r.2)
 | _ :: fs,id,c :: cs=>let r:=ownAcs dp fs id cs; (c :: r.1,r.2)
 | _,_,cs=>(cs,[])
def Ty.resAV:(E:Ty)->List AC->List (Bool×List AC)
 | .pair a b,cs=>(a.isAgg,cs.take a.sz) :: b.resAV (cs.drop a.sz)
 | _,_=>[]
def tupAV:List (Bool×List AC)->AV
 | [(true,cs)] => .agg cs
 | [(false,[c])] => .one c
 | l => .tup l
def Ty.rep(e:Ty):Nat->Ty
 | 0 => .nil
 | n+1 => .pair e (e.rep n)
def tyOf(P:Program):Nat->TypeId->Option Ty
 | 0,_=>none
 | n+1,t=>match P.underlying t with
  | some .bool=>some .bool
  | some (.int k)=>some (.int k)
  | some .string=>some .str
  | some (.slice e)=>(tyOf P n e).map .slice
  | some (.pointer e)=>(tyOf P n e).map .ptr
  | some (.array k e)=>(tyOf P n e).map fun a => .agg (a.rep k)
  | some (.map k e)=>match P.underlying k with
   | some (.int .i64)=>(tyOf P n e).map .map
   | _=>none
  | some (.struct fs)=>(fs.toList.foldr (fun f acc=>match tyOf P n f.type,acc with | some a,some b=>some (Ty.pair a b) | _,_=>none) (some Ty.nil)).map .agg
  | _=>none
def aggD:TypeDesc->Bool
 | .struct _=>true
 | .array _ _=>true
 | _=>false
def sizeT(P:Program)(t:TypeId):Nat:=match P.info? t with
 | some i=>i.size
 | none=>0
def arrK{M:Type}(i:Int)(f:Nat->Option M):Nat->Option M
 | 0=>none
 | n+1=>bif decide (i=(n:Int)) then f n else arrK i f n
section
variable {M:Type} (P:Program) (C:Ctx)
def pinAcs(id:Nat)(e:Ty)(i:Nat):Nat->List AC->List AC
 | _,[]=>[]
 | o,.slc _ _ :: cs => .pin id e i o none :: pinAcs id e i (o+1) cs
 | o,.int k n :: cs => .int k n :: pinAcs id e i (o+1) cs
 | o,.bool b :: cs => .bool b :: pinAcs id e i (o+1) cs
 | o,.str s :: cs => .str s :: pinAcs id e i (o+1) cs
 | o,_ :: cs => .bad :: pinAcs id e i (o+1) cs
def Env.pinAt(σ:Env)(id:Nat)(e:Ty)(i off:Nat)(K:e.den->(f:Ty)->List f.den->Option M):Option M:=match σ.ob id with
 | .drow _ xs=>match Ty.castL (b:=e) xs with
  | some ys=>obind ys[i]? fun x=>match nth (e.acs x) off .bad with
   | .slc f zs=>K x f zs
   | _=>none
  | none=>none
 | _=>none
def loadK(σ:Env)(t:TypeId)(cs:List AC)(off:Nat)(K:AV->Env->Option M):Option M:=
 match P.underlying t with
 | some d=>bif aggD d then (bif decide (off+sizeT P t<=cs.length) then K (.agg (sub cs off (sizeT P t))) σ else none) else (bif decide (off<cs.length) then K (.one (nth cs off .bad)) σ else none)
 | none=>none
def intK(op:BinOp)(k:IntKind)(a b:Int)(σ:Env)(K:AV->Env->Option M):Option M:=
 match op with
 | .add=>K (.one (.int k (k.wrap (a+b)))) σ
 | .sub=>K (.one (.int k (k.wrap (a - b)))) σ
 | .mul=>K (.one (.int k (k.wrap (a * b)))) σ
 | .quo=>bif decide (b=0) then none else K (.one (.int k (k.wrap (a.tdiv b)))) σ
 | .rem=>bif decide (b=0) then none else K (.one (.int k (a.tmod b))) σ
 | .eql=>K (.one (.bool (decide (a=b)))) σ
 | .neq=>K (.one (.bool (!decide (a=b)))) σ
 | .lss=>K (.one (.bool (decide (a<b)))) σ
 | .leq=>K (.one (.bool (decide (a<=b)))) σ
 | .gtr=>K (.one (.bool (decide (b<a)))) σ
 | .geq=>K (.one (.bool (decide (b<=a)))) σ
 | .shl=>bif decide (0<=b) then K (.one (.int k (k.wrap (a * 2 ^ (min b.toNat k.bits))))) σ else none
 | .shr=>bif decide (0<=b) then K (.one (.int k (a.fdiv (2 ^ (min b.toNat k.bits))))) σ else none
 | .and=>K (.one (.int k (bits .and k a b))) σ
 | .or=>K (.one (.int k (bits .or k a b))) σ
 | .xor=>K (.one (.int k (bits .xor k a b))) σ
 | _=>none
def partA(t:TypeId)(cs:List AC)(off:Nat):Option AV:=match P.underlying t with
 | some d=>bif aggD d then (bif decide (off+sizeT P t<=cs.length) then some (.agg (sub cs off (sizeT P t))) else none) else (bif decide (off<cs.length) then some (.one (nth cs off .bad)) else none)
 | none=>none
def eqFs(g:Field->Option Bool):List Field->Option Bool
 | []=>some true
 | f :: fs => bif decide (f.name = "_") then none else match g f, eqFs g fs with
  | some a,some b=>some (a && b)
  | _,_=>none
def eqA:Nat->TypeId->AV->AV->Option Bool
 | 0,_,_,_=>none
 | n+1,t,x,y=>match P.underlying t,x,y with
  | some (.int _),.one (.int k a),.one (.int k' b)=>bif decide (k=k') then some (decide (a=b)) else none
  | some .bool,.one (.bool a),.one (.bool b)=>some (a == b)
  | some .string,.one (.str a),.one (.str b)=>some (decide (a=b))
  | some (.struct fs),.agg xs,.agg ys=>bif P.stoodInHeld t then none else eqFs (fun f=>match partA P f.type xs f.offset,partA P f.type ys f.offset with
   | some u,some v=>eqA n f.type u v
   | _,_=>none) fs.toList
  | _,_,_=>none
def isSl(st:TypeId):Bool:=match P.underlying st with
 | some (.slice _)=>true
 | _=>false
def isPt(st:TypeId):Bool:=match P.underlying st with
 | some (.pointer _)=>true
 | _=>false
def binK(op:BinOp)(t:TypeId)(σ:Env)(x y:AV)(K:AV->Env->Option M):Option M:=
 match x,y with
 | .one (.int k a),.one (.int k' b)=>bif decide (k=k') then intK op k a b σ K else bif (match op with | .shl | .shr=>true | _=>false) then intK op k a b σ K else none
 | .one (.bool a),.one (.bool b)=>match op,P.underlying t with
  | .eql,some .bool=>K (.one (.bool (a == b))) σ
  | .neq,some .bool=>K (.one (.bool (!(a == b)))) σ
  | _,_=>none
 | .one (.str a),.one (.str b)=>match op with
  | .eql=>K (.one (.bool (decide (a=b)))) σ
  | .neq=>K (.one (.bool (!decide (a=b)))) σ
  | .add=>bif decide (a.size+b.size<=limS) then K (.one (.str (a++b))) σ else none
  | _=>none
 | .one (.sln _ _),.one .nils=>bif isSl P t then (match op with
  | .eql=>K (.one (.bool false)) σ
  | .neq=>K (.one (.bool true)) σ
  | _=>none) else none
 | .one (.slz _),.one .nils=>bif isSl P t then (match op with
  | .eql=>K (.one (.bool true)) σ
  | .neq=>K (.one (.bool false)) σ
  | _=>none) else none
 | .one (.ptr _ p),.one .nilp=>bif isPt P t then (match op with
  | .eql=>K (.one (.bool p.isNone)) σ
  | .neq=>K (.one (.bool p.isSome)) σ
  | _=>none) else none
 | .agg xs,.agg ys=>match op with
  | .eql=>bif P.eqGuardType P.depth t then none else match eqA P 8 t (.agg xs) (.agg ys) with
   | some c=>K (.one (.bool c)) σ
   | none=>none
  | .neq=>bif P.eqGuardType P.depth t then none else match eqA P 8 t (.agg xs) (.agg ys) with
   | some c=>K (.one (.bool (!c))) σ
   | none=>none
  | _=>none
 | _,_=>none
def q200(s:TypeId)(f:Nat):Option (Nat×TypeId):=match P.underlying s with
 | some (.struct fs)=>match fs.toList[f]? with
  | some fd=>some (fd.offset,fd.type)
  | none=>none
 | _=>none
def q137(σ:Env):List Operand->List AC
 | []=>[]
 | x :: xs=>(σ.ev x).cells++q137 σ xs
def q166(σ:Env):Ty->List Operand->List AC->Bool
 | .pair a b,x :: xs,cs=>(σ.ev x).isAgg == a.isAgg && Nat.beq (σ.ev x).cells.length a.sz && a.proper && q166 σ b xs cs
 | .pair a b,[],_ :: cs=>false == a.isAgg && Nat.beq 1 a.sz && a.proper && q166 σ b [] cs
 | .nil,[],[]=>true
 | _,_,_=>false
def AC.flatC:AC->Bool
 | .int _ _=>true
 | .bool _=>true
 | .str _=>true
 | .own _=>true
 | _=>false
def Ob.flatO:Ob->Bool
 | .row e _=>e.flat
 | .drow _ _=>true
 | _=>false
abbrev Inl(M:Type):=FuncId->List AV->Env->(AV->Env->Option M)->Option M
def noInl{M:Type}:Inl M:=fun _ _ _ _=>none
variable (I:Inl M)
def q578{M:Type}(tabs:List (Nat×List ByteArray))(σ:Env)(rw:Bool)(S:FnSpec)(vs:List AV)(ex:List AC)(K:AV->Env->Option M):Option M:=match vs,ex with
 | [.one (.pin id e i off none)],[]=>σ.pinAt id e i off fun _ f zs=>bif q166 σ S.ps [] [.slc f zs] then (match S.ps.ofAcs [] [.slc f zs] with
  | some x=>obind (S.fn x) fun r=>
   bif (ownAcs S.deep (bif rw then [] else S.own) σ.h.length (S.rs.acs r)).1.all AC.flatC && (ownAcs S.deep (bif rw then [] else S.own) σ.h.length (S.rs.acs r)).2.all (fun p=>p.2.flatO) then
    K (tupAV (S.rs.resAV (ownAcs S.deep (bif rw then [] else S.own) σ.h.length (S.rs.acs r)).1)) { σ with h:=σ.h++(ownAcs S.deep (bif rw then [] else S.own) σ.h.length (S.rs.acs r)).2 }
   else none
  | none=>none) else none
 | [.one (.gsl g n),.one (.str s)],[]=>match q233 tabs g with
  | some xs=>bif Nat.beq n xs.length && q166 σ S.ps [] [.slc .str xs,.str s] then (match S.ps.ofAcs [] [.slc .str xs,.str s] with
   | some x=>obind (S.fn x) fun r=>
    bif (ownAcs S.deep (bif rw then [] else S.own) σ.h.length (S.rs.acs r)).1.all AC.flatC && (ownAcs S.deep (bif rw then [] else S.own) σ.h.length (S.rs.acs r)).2.all (fun p=>p.2.flatO) then
     K (tupAV (S.rs.resAV (ownAcs S.deep (bif rw then [] else S.own) σ.h.length (S.rs.acs r)).1)) { σ with h:=σ.h++(ownAcs S.deep (bif rw then [] else S.own) σ.h.length (S.rs.acs r)).2 }
    else none
   | none=>none) else none
  | none=>none
 | _,_=>none
def callK(σ:Env)(d:Option Nat)(f:FuncId)(ct:Ty)(cx:ct.den)(args:List Operand)(K:AV->Env->Option M):Option M:=
 match C.fns.find f (keyOf (q137 σ args)) with
 | none=>I f (args.map σ.ev++(ct.acs cx).map .one) σ K
 | some S=>bif q166 σ S.ps args (ct.acs cx) && q51 S.rs then
  match S.ps.ofAcs [] (q137 σ args++ct.acs cx) with
  | some x=>obind (S.fn x) fun r=>
   K (tupAV (S.rs.resAV (ownAcs S.deep (bif C.isRaw d then [] else S.own) σ.h.length (S.rs.acs r)).1)) { σ with h:=σ.h++(ownAcs S.deep (bif C.isRaw d then [] else S.own) σ.h.length (S.rs.acs r)).2 }
  | none=>match S.ps.ofAcs σ.h (q137 σ args++ct.acs cx) with
   | some x=>obind (S.fn x) fun r=>
    bif (ownAcs S.deep (bif C.isRaw d then [] else S.own) σ.h.length (S.rs.acs r)).1.all AC.flatC && (ownAcs S.deep (bif C.isRaw d then [] else S.own) σ.h.length (S.rs.acs r)).2.all (fun p=>p.2.flatO) then
     K (tupAV (S.rs.resAV (ownAcs S.deep (bif C.isRaw d then [] else S.own) σ.h.length (S.rs.acs r)).1)) { σ with h:=σ.h++(ownAcs S.deep (bif C.isRaw d then [] else S.own) σ.h.length (S.rs.acs r)).2 }
    else none
   | none=>q578 C.tabs σ (C.isRaw d) S (args.map σ.ev) (ct.acs cx) K
  else none
def AC.soleC:AC->Bool
 | .int _ _=>true
 | .bool _=>true
 | .str _=>true
 | .own _=>true
 | .nils=>true
 | _=>false
def q24:List AC->List Nat
 | []=>[]
 | .own id :: cs=>id :: q24 cs
 | _ :: cs=>q24 cs
def AC.emptyC:AC->Bool
 | .slc _ ys=>ys.isEmpty
 | _=>true
def Ob.sole:Ob->Bool
 | .row e _=>e.flat
 | .drow _ _=>true
 | _=>false
def q309(h:List (Nat×Ob)):List Nat->Bool
 | []=>true
 | id :: ids=>!(ids.any (Nat.beq id)) && ((nth h id (0,.gone)).2.sole && q309 h ids)
def onlyH(ids:List Nat):List (Nat×Ob)->Nat->List (Nat×Ob)
 | [],_=>[]
 | p :: l,i=>(bif ids.any (Nat.beq i) then p else (0,.gone)) :: onlyH ids l (i+1)
def Env.takes:Env->List Nat->Env
 | σ,[]=>σ
 | σ,id :: ids=>Env.takes ((σ.kill id).setOb id .gone) ids
def rowOk(et:TypeId)(e:Ty):Bool:=match P.info? et with
 | some i=>Nat.beq i.size e.sz && decide (0<e.sz) && decide (i.bytes<=4096) && (match i.zero with
  | some z=>Nat.beq z.cells.size e.sz
  | none=>false)
 | none=>false
def idxOk(t:TypeId)(e:Ty):Bool:=match P.underlying t with
 | some (.slice et)=>(P.info? et).isSome && Nat.beq (sizeT P et) e.sz
 | _=>false
def elemT(st:TypeId):TypeId:=match P.underlying st with
 | some (.slice et)=>et
 | _=>0
def rowOf(σ:Env)(e:Ty):AC->Option (List e.den)
 | .slc _ xs=>Ty.castL (b:=e) xs
 | .sln _ xs=>Ty.castL (b:=e) xs
 | .nils=>some []
 | .own id=>match σ.ob id with
  | .row _ xs=>Ty.castL (b:=e) xs
  | _=>none
 | _=>none
def killsC(ids:List Nat)(c:AC):AC:=ids.foldl (fun c id=>AC.kill id c) c
def q692(σ:Env)(id:Nat)(e:Ty)(i off:Nat)(v:AV)(K:AV->Env->Option M):Option M:=match v with
 | .one (.own k)=>match σ.ob id,σ.ob k with
  | .drow _ xs,.row f zs=>match Ty.castL (b:=e) xs with
   | some ys=>bif f.flat && (e.simple && !(Nat.beq k id)) then obind ys[i]? fun x=>match (e.acs x)[off]? with
    | some (.slc f' _)=>match Ty.castL (b:=f') zs with
     | some zs'=>match e.ofAcs [] (setN (e.acs x) off (.slc f' zs')) with
      | some x'=>K (.one .und) (((σ.takes [k]).killI id).setOb id (.drow e (ys.set i x')))
      | none=>none
     | none=>none
    | _=>none
    else none
   | none=>none
  | _,_=>none
 | _=>none
def appD(σ:Env)(st:TypeId)(id:Nat)(e:Ty)(xs:List e.den)(x:AC)(K:AV->Env->Option M):Option M:=match x with
 | .own xid=>match σ.ob xid with
  | .crow e' cs=>bif decide (e'=e) && (isSl P st && (rowOk P (elemT P st) e && (cs.all AC.soleC && q309 σ.h (id :: q24 cs)))) then match e.ofAcs (onlyH (q24 cs) σ.h 0) cs with
   | some y=>bif decide ((xs++[y]).length<=lim) then K (.one (.own id)) (((σ.takes (q24 cs)).kill id).setOb id (.drow e (xs++[y]))) else none
   | none=>none
   else none
  | _=>none
 | _=>none
def q128(σ:Env)(st:TypeId)(s x:AC)(Y:(e:Ty)->Option (List e.den))(K:AV->Env->Option M):Option M:=
 match s with
 | .own id=>match σ.ob id with
  | .row e xs=>match Y e with
   | some ys=>bif isSl P st && (rowOk P (elemT P st) e && decide ((xs++ys).length<=lim)) then
    K (.one (.own id)) ((σ.kill id).setOb id (.row e (xs++ys)))
    else none
   | none=>none
  | .drow e xs=>appD P σ st id e xs x K
  | _=>none
 | .inn id i=>match σ.ob id with
  | .tree e xss none=>match Y e with
   | some ys=>obind xss[i]? fun xs=>bif isSl P st && (rowOk P (elemT P st) e && decide ((xs++ys).length<=lim)) then
    K (.one (.inn id i)) ((σ.killI id).setOb id (.tree e (xss.set i (xs++ys)) (some i)))
    else none
   | none=>none
  | _=>none
 | .nils=>match tyOf P 16 st with
  | some (.slice e)=>match Y e with
   | some ys=>bif isSl P st && (rowOk P (elemT P st) e && decide (ys.length<=lim)) then K (.one (.own σ.h.length)) (σ.newOb (.row e ys)) else none
   | none=>appD P (σ.newOb (.drow e [])) st σ.h.length e [] x K
  | _=>none
 | _=>none
def AC.isPin:AC->Bool
 | .pin _ _ _ _ _=>true
 | _=>false
def q572(σ:Env)(st:TypeId)(s x:AC)(K:AV->Env->Option M):Option M:=match x with
 | .pin id e' i off none=>σ.pinAt id e' i off fun _ f zs=>bif f.flat then q128 P σ st s x (fun e=>Ty.castL (a:=f) (b:=e) zs) K else none
 | x=>q128 P σ st s x (fun e=>rowOf σ e x) K
def q65(places:List (Nat×Nat)):List AC->List (Nat×AV)->Option (List AC)
 | cs,[]=>some cs
 | cs,(i,v) :: rest=>match places[i]? with
  | some (off,n)=>bif v.cells.all AC.good && Nat.beq v.cells.length n && decide (off+n<=cs.length) then q65 places (putN cs off v.cells) rest else none
  | none=>none
def repN{B:Type}:Nat->List B->List B
 | 0,_=>[]
 | n+1,l=>l++repN n l
def zeroOf(t:TypeId):Option AV:=match P.info? t with
 | some i=>i.zero.map avOf
 | none=>none
def chunks(e:Ty)(h:List (Nat×Ob)):Nat->List AC->Option (List e.den)
 | 0,_=>some []
 | n+1,cs=>match e.ofAcs h (cs.take e.sz),chunks e h n (cs.drop e.sz) with
  | some x,some xs=>some (x :: xs)
  | _,_=>none
def isNum(t:TypeId):Bool:=match P.underlying t with
 | some (.int _)=>true
 | _=>false
def appZK(σ:Env)(st st':TypeId)(s x:AC)(K:AV->Env->Option M):Option M:=match s,x with
 | .nils,.int _ n=>match tyOf P 16 st,zeroOf P (elemT P st) with
  | some (.slice e),some z=>match e.ofAcs [] z.cells with
   | some y=>bif isSl P st && (rowOk P (elemT P st) e && (isNum P st' && (z.cells.all AC.good && (decide (0<n) && decide (n<=(lim:Int)))))) then K (.one (.own σ.h.length)) (σ.newOb (.row e (List.replicate n.toNat y))) else none
   | none=>none
  | _,_=>none
 | _,_=>none
def foldR(f:Int->Int->Int)(k:IntKind):Int->List AV->Option (IntKind×Int)
 | n,[]=>some (k,n)
 | n,.one (.int k' m) :: l=>bif decide (k'=k) then foldR f k (f n m) l else none
 | _,_=>none
def foldI(f:Int->Int->Int):List AV->Option (IntKind×Int)
 | .one (.int k n) :: l=>foldR f k n l
 | _=>none
def strOf(xs:List Int):ByteArray:=xs.foldl (fun r n=>r.push (UInt8.ofNat n.toNat)) ByteArray.empty
def bndK(σ:Env)(d:Int):Option Operand->Option Int
 | none=>some d
 | some x=>match σ.ev x with
  | .one (.int _ n)=>some n
  | _=>none
def AC.data:AC->Option ((E:Ty)×E.den)
 | .int k n=>some ⟨.int k,n⟩
 | .bool b=>some ⟨.bool,b⟩
 | .str s=>some ⟨.str,s⟩
 | .slc e xs=>some ⟨.slice e,xs⟩
 | .ptr e p=>some ⟨.ptr e,p⟩
 | .dptr e x 0=>some ⟨.ptr e,some x⟩
 | .clo g t x=>some ⟨.clo g t,x⟩
 | .mp e xs=>some ⟨.map e,xs⟩
 | _=>none
def capsOf(σ:Env):List Operand->Option ((E:Ty)×E.den)
 | []=>some ⟨.nil,()⟩
 | x :: xs=>match σ.ev x with
  | .one c=>match c.data,capsOf σ xs with
   | some d,some ds=>some ⟨.pair d.1 ds.1,(d.2,ds.2)⟩
   | _,_=>none
  | _=>none
def capsA(σ:Env):List Operand->Option (List Cap)
 | []=>some []
 | x :: xs=>match σ.ev x,capsA σ xs with
  | .one (.vptr id off),some cs=>some (.vptr id off :: cs)
  | .one (.own id),some cs=>some (.own id :: cs)
  | .one c,some cs=>match c.data with
   | some d=>some (.dat d.1 d.2 :: cs)
   | none=>none
  | _,_=>none
def Cap.ac:Cap->AC
 | .vptr id off => .vptr id off
 | .own id => .own id
 | .dat E x=>match E.acs x with
  | [c]=>c
  | _ => .bad
def opK(σ:Env)(o:Oper)(K:AV->Env->Option M):Option M:=
 match o.op with
 | .move x=>K (σ.ev x) σ
 | .assign x=>K (σ.ev x) σ
 | .pick c a b=>match σ.ev c with
  | .one (.bool t)=>bif t then K (σ.ev a) σ else K (σ.ev b) σ
  | _=>none
 | .alloc t=>match zeroOf P t with
  | some v=>bif v.cells.all AC.good then K (.one (.vptr σ.h.length 0)) (σ.newOb (.var v.cells)) else none
  | none=>none
 | .box t x=>bif (σ.ev x).cells.all AC.good then
  bif C.isRaw o.dst then match tyOf P 16 t with
   | some e=>match e.ofAcs [] (σ.ev x).cells with
    | some y=>K (.one (.dptr e y 0)) σ
    | none=>none
   | none=>none
  else K (.one (.vptr σ.h.length 0)) (σ.newOb (.var (σ.ev x).cells))
  else none
 | .build t parts=>match zeroOf P t,P.underlying t with
  | some z,some (.struct fs)=>bif fs.toList.all (fun f=>(P.info? f.type).isSome) then match q65 (fs.toList.map fun f=>(f.offset,sizeT P f.type)) z.cells (parts.toList.map fun p=>(p.1,σ.ev p.2)) with
   | some cs=>bif z.isAgg then K (.agg cs) σ else none
   | none=>none
   else none
  | some z,some (.array n e)=>bif (P.info? e).isSome then match q65 ((List.range n).map fun i=>(i * sizeT P e,sizeT P e)) z.cells (parts.toList.map fun p=>(p.1,σ.ev p.2)) with
   | some cs=>bif z.isAgg then K (.agg cs) σ else none
   | none=>none
   else none
  | _,_=>none
 | .buildSlice t len parts=>match P.underlying t with
  | some (.slice et)=>match tyOf P 16 et,zeroOf P et with
   | some e,some z=>bif rowOk P et e && decide (len * e.sz<=16777216) then match q65 ((List.range len).map fun i=>(i * e.sz,e.sz)) (repN len z.cells) (parts.toList.map fun p=>(p.1,σ.ev p.2)) with
    | some cs=>match chunks e [] len cs with
     | some xs=>bif C.isRaw (o.dst.map (1000000 + ·)) then (match xs with
      | []=>K (.one (.own σ.h.length)) (σ.newOb (.drow e []))
      | _=>none) else bif C.isRaw o.dst then K (.one (.slc e xs)) σ else K (.one (.own σ.h.length)) (σ.newOb (.row e xs))
     | none=>bif Nat.beq len 1 && cs.all AC.soleC then K (.one (.own σ.h.length)) (σ.newOb (.crow e cs)) else none
    | none=>none
    else none
   | _,_=>none
  | _=>none
 | .load t a=>match σ.ev a with
  | .one (.vptr id off)=>match σ.ob id with
   | .var cs=>loadK P σ t cs off K
   | _=>none
  | .one (.dptr e x off)=>loadK P σ t (e.acs x) off K
  | .one (.ptr e p)=>obind p fun x=>loadK P σ t (e.acs x) 0 K
  | .one (.gidx g i)=>match q233 C.tabs g with
   | some xs=>obind xs[i]? fun s=>loadK P σ t [.str s] 0 K
   | none=>none
  | .one (.eptr id e i off)=>match σ.ob id with
   | .row _ xs=>match Ty.castL (b:=e) xs with
    | some ys=>obind ys[i]? fun x=>loadK P σ t (e.acs x) off K
    | none=>none
   | .tree e' xss none=>bif Nat.beq off 0 && (Nat.beq e.sz 1 && isSl P t) then obind xss[i]? fun _=>K (.one (.inn id i)) σ else none
   | .drow _ xs=>match Ty.castL (b:=e) xs with
    | some ys=>obind ys[i]? fun x=>loadK P σ t (pinAcs id e i 0 (e.acs x)) off K
    | none=>none
   | _=>none
  | .one (.pin id e i off (some (f,j,o2)))=>σ.pinAt id e i off fun _ f' zs=>match Ty.castL (b:=f) zs with
   | some zs'=>bif f.flat then obind zs'[j]? fun y=>loadK P σ t (f.acs y) o2 K else none
   | none=>none
  | _=>none
 | .store t a v=>bif (σ.ev v).cells.all AC.good && (Nat.beq (σ.ev v).cells.length (sizeT P t) && (P.info? t).isSome) then match σ.ev a with
  | .one (.vptr id off)=>match σ.ob id with
   | .var cs=>bif decide (off+(σ.ev v).cells.length<=cs.length) then K (.one .und) (σ.setOb id (.var (putN cs off (σ.ev v).cells))) else none
   | _=>none
  | .one (.eptr id e i off)=>match σ.ob id with
   | .row _ xs=>match Ty.castL (b:=e) xs with
    | some ys=>obind ys[i]? fun x=>match e.ofAcs [] (putN (e.acs x) off (σ.ev v).cells) with
     | some y=>bif decide (off+(σ.ev v).cells.length<=e.sz) then K (.one .und) (σ.setOb id (.row e (ys.set i y))) else none
     | none=>none
    | none=>none
   | .tree e' xss (some k)=>match σ.ev v with
    | .one (.inn id' j)=>bif Nat.beq off 0 && (Nat.beq e.sz 1 && Nat.beq id' id) && (decide (k=j) && decide (i=j)) then obind xss[i]? fun _=>K (.one .und) (σ.setOb id (.tree e' xss none)) else none
    | _=>none
   | .drow _ xs=>bif Nat.beq off 0 && (Nat.beq (σ.ev v).cells.length e.sz && ((σ.ev v).cells.all AC.soleC && q309 σ.h (id :: q24 (σ.ev v).cells))) then
    match Ty.castL (b:=e) xs,e.ofAcs (onlyH (q24 (σ.ev v).cells) σ.h 0) (σ.ev v).cells with
    | some ys,some y=>obind ys[i]? fun _=>K (.one .und) (((σ.takes (q24 (σ.ev v).cells)).killI id).setOb id (.drow e (ys.set i y)))
    | _,_=>none
    else q692 σ id e i off (σ.ev v) K
   | _=>none
  | .one (.pin id e i off (some (f,j,o2)))=>σ.pinAt id e i off fun x f' zs=>match Ty.castL (b:=f) zs with
   | some zs'=>bif f.flat && (e.simple && (Nat.blt 0 f.sz && decide (o2+(σ.ev v).cells.length<=f.sz))) then obind zs'[j]? fun y=>match f.ofAcs [] (putN (f.acs y) o2 (σ.ev v).cells) with
    | some y'=>match e.ofAcs [] (setN (e.acs x) off (.slc f (zs'.set j y'))),σ.ob id with
     | some x',.drow _ xs=>match Ty.castL (b:=e) xs with
      | some ys=>K (.one .und) (σ.setOb id (.drow e (ys.set i x')))
      | none=>none
     | _,_=>none
    | none=>none
    else none
   | none=>none
  | _=>none
  else none
 | .nilCheck x=>match σ.ev x with
  | .one (.pin id e i off (some q))=>K (.one (.pin id e i off (some q))) σ
  | .one (.vptr id off)=>K (.one (.vptr id off)) σ
  | .one (.dptr e y off)=>K (.one (.dptr e y off)) σ
  | .one (.eptr id e i off)=>K (.one (.eptr id e i off)) σ
  | .one (.ptr e p)=>obind p fun y=>K (.one (.dptr e y 0)) σ
  | _=>none
 | .binOp op t x y _=>binK P op t σ (σ.ev x) (σ.ev y) K
 | .unOp op _ x=>match op,σ.ev x with
  | .not,.one (.bool b)=>K (.one (.bool (!b))) σ
  | .neg,.one (.int k n)=>K (.one (.int k (k.wrap (0 - n)))) σ
  | _,_=>none
 | .convert src dst x=>match σ.ev x,P.underlying src,P.underlying dst with
  | .one (.int _ n),some _,some (.int k)=>K (.one (.int k (k.wrap n))) σ
  | .one c,some (.slice e),some .string=>match P.underlying e,(Ty.slice (.int .u8)).ofAcs σ.h [c] with
   | some (.int .u8),some xs=>K (.one (.str (strOf xs))) σ
   | _,_=>none
  | _,_,_=>none
 | .makeFunc (.func g) first caps=>bif first.toList.isEmpty then
  match capsOf σ caps.toList with
  | some d=>K (.one (.clo g d.1 d.2)) σ
  | none=>match capsA σ caps.toList with
   | some cs=>K (.one (.cloA g cs)) σ
   | none=>none
  else none
 | .makeSlice t l c=>match P.underlying t with
  | some (.slice et)=>match tyOf P 16 et,zeroOf P et with
   | some e,some z=>match e.ofAcs [] z.cells,σ.ev l,σ.ev c with
    | some x,.one (.int _ n),.one (.int _ m)=>bif rowOk P et e && (decide (0<=n) && (decide (n<=lim) && decide (n=m))) then bif C.isRaw (o.dst.map (1000000 + ·)) then (bif (e.acs x).all AC.emptyC then K (.one (.own σ.h.length)) (σ.newOb (.drow e (List.replicate n.toNat x))) else none) else bif C.isRaw o.dst then (match e,z with
     | .slice e',.one .nils=>K (.one (.own σ.h.length)) (σ.newOb (.tree e' (List.replicate n.toNat []) none))
     | _,_=>none) else K (.one (.own σ.h.length)) (σ.newOb (.row e (List.replicate n.toNat x))) else none
    | _,_,_=>none
   | _,_=>none
  | _=>none
 | .fieldAddr s x f=>match q200 P s f,σ.ev x with
  | some (fo,ft),.one (.vptr id off)=>bif Nat.blt 0 (sizeT P ft) then K (.one (.vptr id (off+fo))) σ else none
  | some (fo,ft),.one (.dptr e y off)=>bif Nat.blt 0 (sizeT P ft) then K (.one (.dptr e y (off+fo))) σ else none
  | some (fo,ft),.one (.eptr id e i off)=>bif Nat.blt 0 (sizeT P ft) then K (.one (.eptr id e i (off+fo))) σ else none
  | some (fo,ft),.one (.pin id e i off (some (f,j,o2)))=>bif Nat.blt 0 (sizeT P ft) then K (.one (.pin id e i off (some (f,j,o2+fo)))) σ else none
  | some (fo,ft),.one (.ptr e p)=>bif Nat.blt 0 (sizeT P ft) then obind p fun y=>K (.one (.dptr e y fo)) σ else none
  | _,_=>none
 | .field s x f=>match q200 P s f,σ.ev x with
  | some (fo,ft),.agg cs=>loadK P σ ft cs fo K
  | _,_=>none
 | .indexAddr t x ix=>match σ.ev x,σ.ev ix with
  | .one (.slc e xs),.one (.int _ i)=>bif idxOk P t e then obind (atI xs i) fun y=>K (.one (.dptr e y 0)) σ else none
  | .one (.own id),.one (.int _ i)=>match σ.ob id with
   | .row e xs=>bif idxOk P t e && inI i xs.length then K (.one (.eptr id e i.toNat 0)) σ else none
   | .tree e xs _=>bif idxOk P t (.slice e) && inI i xs.length then K (.one (.eptr id (.slice e) i.toNat 0)) σ else none
   | .drow e xs=>bif idxOk P t e && inI i xs.length then K (.one (.eptr id e i.toNat 0)) σ else none
   | _=>none
  | .one (.pin id e i off none),.one (.int _ j)=>σ.pinAt id e i off fun _ f zs=>bif idxOk P t f && (f.flat && inI j zs.length) then K (.one (.pin id e i off (some (f,j.toNat,0)))) σ else none
  | .one (.vptr id off),.one (.int _ i)=>match P.underlying t with
   | some (.array n e)=>bif (P.info? e).isSome then arrK i (fun j=>K (.one (.vptr id (off+j * sizeT P e))) σ) n else none
   | _=>none
  | .one (.gsl g n),.one (.int _ i)=>match P.underlying t,q233 C.tabs g with
   | some (.slice e),some _=>bif (P.info? e).isSome && (Nat.beq (sizeT P e) 1 && inI i n) then K (.one (.gidx g i.toNat)) σ else none
   | _,_=>none
  | .one (.gl g),.one (.int _ i)=>match P.underlying t,q233 C.tabs g with
   | some (.array n e),some _=>bif (P.info? e).isSome && (Nat.beq (sizeT P e) 1 && (decide (0<=i) && decide (i<(n:Int)))) then K (.one (.gidx g i.toNat)) σ else none
   | _,_=>none
  | _,_=>none
 | .index t x ix=>match σ.ev x,σ.ev ix,P.underlying t with
  | .one (.str s),.one (.int _ i),some .string=>obind (byteAt s i) fun b=>K (.one (.int .u8 b)) σ
  | _,_,_=>none
 | .slice t x lo hi mx=>bif mx.isNone then match σ.ev x,P.underlying t with
  | .one (.str s),some .string=>match bndK σ 0 lo,bndK σ s.size hi with
   | some l,some h=>bif (decide (0<=l) && decide (l<=h)) && decide (h<=(s.size:Int)) then K (.one (.str (s.extract l.toNat h.toNat))) σ else none
   | _,_=>none
  | .one (.slc e xs),some (.slice _)=>match bndK σ 0 lo,bndK σ xs.length hi with
   | some l,some h=>bif idxOk P t e && ((decide (0<=l) && decide (l<=h)) && decide (h<=(xs.length:Int))) then K (.one (.slc e ((xs.take h.toNat).drop l.toNat))) σ else none
   | _,_=>none
  | .one (.gl g),some (.array n e)=>bif (P.info? e).isSome && (decide (n<=maxLen) && (lo.isNone && hi.isNone)) then K (.one (.gsl g n)) σ else none
  | .one .nils,some (.slice et)=>match bndK σ 0 lo,bndK σ 0 hi with
   | some l,some h=>bif (P.info? et).isSome && (decide (l=0) && decide (h=0)) then K (.one .nils) σ else none
   | _,_=>none
  | .one (.own id),some (.slice _)=>bif hi.isSome then (match σ.ob id,bndK σ 0 lo,bndK σ 0 hi with
   | .row e xs,some l,some h=>bif idxOk P t e && (decide (l=0) && (decide (0<=h) && decide (h<=(xs.length:Int)))) then K (.one (.opre id e h.toNat)) σ else none
   | _,_,_=>none) else match σ.ob id,bndK σ 0 lo,hi with
   | .row e xs,some l,none=>bif idxOk P t e && (decide (0<=l) && decide (l<=(xs.length:Int))) then K (.one (.osub id e l.toNat)) σ else none
   | _,_,_=>none
  | _,_=>none
  else none
 | .extract x i=>match σ.ev x with
  | .tup vs=>match vs[i]? with
   | some p=>K (tupAV [p]) σ
   | none=>none
  | _=>none
 | .call c=>match c.callee with
  | .value f=>match σ.ev f with
   | .one (.clo g t x)=>callK C I σ o.dst g t x c.args.toList K
   | .one (.cloA g cs)=>I g (c.args.toList.map σ.ev++cs.map fun c => .one c.ac) σ K
   | _=>none
  | .builtin .len=>match c.args.toList.map σ.ev,c.argTypes.toList.map P.underlying with
   | [.one (.slc _ xs)],[some (.slice _)]=>K (.one (.int .i64 xs.length)) σ
   | [.one .nils],[some (.slice _)]=>K (.one (.int .i64 0)) σ
   | [.one (.own id)],[some (.slice _)]=>match σ.ob id with
    | .row _ xs=>K (.one (.int .i64 xs.length)) σ
    | .drow _ xs=>K (.one (.int .i64 xs.length)) σ
    | _=>none
   | [.one (.pin id e i off none)],[some (.slice _)]=>σ.pinAt id e i off fun _ f zs=>K (.one (.int .i64 zs.length)) σ
   | [.one (.gsl _ n)],[some (.slice _)]=>K (.one (.int .i64 n)) σ
   | [.one (.str s)],[some .string]=>K (.one (.int .i64 s.size)) σ
   | _,_=>none
  | .builtin .append=>match c.args.toList.map σ.ev,c.argTypes.toList with
   | [.one s,.one x],[st,st']=>bif Nat.beq st st' then q572 P σ st s x K else appZK P σ st st' s x K
   | _,_=>none
  | .builtin .min=>match foldI (fun x y=>bif decide (y<x) then y else x) (c.args.toList.map σ.ev) with
   | some (k,n)=>K (.one (.int k n)) σ
   | none=>none
  | .builtin .max=>match foldI (fun x y=>bif decide (x<y) then y else x) (c.args.toList.map σ.ev) with
   | some (k,n)=>K (.one (.int k n)) σ
   | none=>none
  | _=>none
 | _=>none
def isApp(o:Oper):Bool:=o.guard.isNone && (match o.op with
 | .call { callee := .builtin .append,.. }=>true
 | _=>false)
def q96(C:Ctx)(o:Oper)(σ:Env)(K:Env->Option M):Option M:=bif isApp o && C.isRaw o.dst then (match o.dst with
 | some d=>(match σ.freeze (d,none) with
  | some σ'=>K σ'
  | none=>none)
 | none=>none) else K σ
def q106(ops:List Oper)(j:Nat):Option Nat:=match ops[j]? with
 | some o=>o.dst
 | none=>none
def regK(ops:List Oper):List Oper->Env->(Env->Option M)->Option M
 | [],σ,K=>K σ
 | o :: rest,σ,K=>match o.guard with
  | none=>opK P C I σ o fun v σ'=>q96 C o (σ'.put o.dst v) fun σ''=>regK ops rest σ'' K
  | some (j,want)=>match q106 ops j with
   | none=>none
   | some d=>match (nth σ.t d (0,.one .bad)).2 with
    | .one .und=>regK ops rest (σ.put o.dst (.one .und)) K
    | .one (.bool b)=>
     match want with
     | true=>bif b then opK P C I (σ.refine (.tmp d) true) o fun v σ'=>regK ops rest (σ'.put o.dst v) K
      else regK ops rest ((σ.refine (.tmp d) false).put o.dst (.one .und)) K
     | false=>bif b then regK ops rest ((σ.refine (.tmp d) true).put o.dst (.one .und)) K
      else opK P C I (σ.refine (.tmp d) false) o fun v σ'=>regK ops rest (σ'.put o.dst v) K
    | _=>none
end
def q167:Ty->Ob
 | .map e => .drow e []
 | e => .row e []
def Env.mkOwn(σ:Env):List (Nat×Ty)->Env
 | []=>σ
 | (i,e) :: is=>match (nth σ.t i (0,.one .bad)).2 with
  | .one .nils=>Env.mkOwn ((σ.newOb (q167 e)).put (some i) (.one (.own σ.h.length))) is
  | .one (.opre id _ n)=>match σ.ob id with
   | .row e' xs=>Env.mkOwn (((σ.kill id).setOb id (.row e' (xs.take n))).put (some i) (.one (.own id))) is
   | _=>Env.mkOwn σ is
  | _=>Env.mkOwn σ is
def Env.mkOwnC(σ:Env):List (Nat×Nat×Ty)->Env
 | []=>σ
 | (id,i,e) :: is=>match σ.ob id with
  | .var cs=>match nth cs i .bad with
   | .nils=>Env.mkOwnC ((σ.newOb (.row e [])).setOb id (.var (setN cs i (.own σ.h.length)))) is
   | _=>Env.mkOwnC σ is
  | _=>Env.mkOwnC σ is
def ioTake(σ:Env):List Bool->(E:Ty)->List AV->Option (E.den×List Nat)
 | true :: fs,.pair (.slice e) b,.one (.own id) :: vs=>match σ.ob id,ioTake σ fs b vs with
  | .row _ xs,some (y,ids)=>match Ty.castL (b:=e) xs with
   | some xs'=>bif e.flat then some ((xs',y),id :: ids) else none
   | none=>none
  | _,_=>none
 | false :: fs,.pair a b,v :: vs=>match (bif (v.isAgg == a.isAgg) && a.proper then a.ofAcs [] v.cells else none),ioTake σ fs b vs with
  | some x,some (y,ids)=>some ((x,y),ids)
  | _,_=>none
 | [],.nil,[]=>some ((),[])
 | _,_,_=>none
def setRows(σ:Env):List Nat->(E:Ty)->E.den->Env
 | id :: ids,.pair (.slice e) b,y=>setRows (σ.setOb id (.row e y.1)) ids b y.2
 | _,_,_=>σ
def q196:List Nat->Bool
 | []=>true
 | i :: is=>!(is.any (Nat.beq i)) && q196 is
def ioK{M:Type}(S:IoSpec)(vs:List AV)(σ:Env)(K:AV->Env->Option M):Option M:=match ioTake σ S.io S.ps vs with
 | some (x,ids)=>bif (q196 ids && q51 S.rs) then obind (S.fn x) fun r=>K (tupAV (S.rs.resAV (S.rs.acs r.1))) (setRows σ ids S.ro r.2) else none
 | none=>none
def q294(σ:Env)(f:Ty)(zs:List f.den):List Bool->(E:Ty)->List AV->Option E.den
 | true :: fs,.pair (.slice e) b,us=>match Ty.castL (b:=e) zs,ioTake σ fs b us with
  | some zs',some (y,[])=>bif e.flat && f.flat then some (zs',y) else none
  | _,_=>none
 | _,_,_=>none
def q709(f:Ty):(E:Ty)->E.den->Option (List f.den)
 | .pair (.slice e) .nil,y=>Ty.castL (a:=e) (b:=f) y.1
 | _,_=>none
def ioPinK{M:Type}(S:IoSpec)(id:Nat)(e:Ty)(i off:Nat)(us:List AV)(σ:Env)(K:AV->Env->Option M):Option M:=σ.pinAt id e i off fun x f zs=>match q294 σ f zs S.io S.ps us with
 | some x0=>bif q51 S.rs && e.simple then obind (S.fn x0) fun r=>match q709 f S.ro r.2 with
  | some zs2=>match e.ofAcs [] (setN (e.acs x) off (.slc f zs2)),σ.ob id with
   | some x',.drow _ ys=>match Ty.castL (b:=e) ys with
    | some ys'=>K (tupAV (S.rs.resAV (S.rs.acs r.1))) (σ.setOb id (.drow e (ys'.set i x')))
    | none=>none
   | _,_=>none
  | none=>none
  else none
 | none=>none
def rowFnK{M:Type}(S:RSpec)(vs:List AV)(σ:Env)(K:AV->Env->Option M):Option M:=match vs with
 | [.one (.own id)]=>match σ.ob id with
  | .row _ xs=>match Ty.castL (b:=S.e) xs with
   | some xs'=>bif S.e.flat then obind (S.fn xs') fun ys=>bif S.keep then K (.one (.own id)) ((σ.kill id).setOb id (.row S.e ys)) else K (.one (.slc S.e ys)) ((σ.kill id).setOb id .gone) else none
   | none=>none
  | _=>none
 | _=>none
def q548:List AV->Option (Nat×Nat×Nat)
 | [.one (.vptr iw 0),.one (.vptr il 0),.one (.vptr ik 0)]=>some (iw,il,ik)
 | _=>none
def q381:(E:Ty)->List AV->Option (E.den×Nat×Nat×Nat)
 | .pair a b,v :: vs=>match (bif (v.isAgg == a.isAgg) && a.proper then a.ofAcs [] v.cells else none),q381 b vs with
  | some x,some (y,i)=>some ((x,y),i)
  | _,_=>none
 | .nil,vs=>match q548 vs with
  | some i=>some ((),i)
  | none=>none
 | _,_=>none
def q545:List Cap->Nat->Nat->Nat->Bool
 | [.vptr a 0,.vptr b 0,.vptr c 0],i,j,k=>Nat.beq a i && (Nat.beq b j && Nat.beq c k)
 | _,_,_,_=>false
def recGo{M:Type}(S:RecSpec)(f:FuncId)(x:S.ps.den)(iw il ik:Nat)(σ:Env)(K:AV->Env->Option M):Option M:=match σ.ob iw,σ.ob il,σ.ob ik with
 | .var cw,.var [.own ir],.var [.cloA g cs]=>match S.wt.ofAcs [] cw,σ.ob ir with
  | some wv,.row _ xs=>match Ty.castL (b:=S.e) xs with
   | some xs'=>bif (Nat.beq g f && q545 cs iw il ik) && q196 [iw,il,ik,ir] then
    obind (S.fn x wv xs') fun r=>K (.tup []) ((((σ.kill ir).setOb ir (.row S.e r.2)).setOb il (.var [.own ir])).setOb iw (.var (S.wt.acs r.1)))
    else none
   | none=>none
  | _,_=>none
 | _,_,_=>none
def recK{M:Type}(S:RecSpec)(f:FuncId)(vs:List AV)(σ:Env)(K:AV->Env->Option M):Option M:=match q381 S.ps vs with
 | some (x,iw,il,ik)=>recGo S f x iw il ik (σ.mkOwnC [(il,0,S.e)]) K
 | none=>none
def q374:(E:Ty)->List AV->Option E.den
 | .pair a b,v :: vs=>match (bif (v.isAgg == a.isAgg) && a.proper then a.ofAcs [] v.cells else none),q374 b vs with
  | some x,some y=>some (x,y)
  | _,_=>none
 | .nil,[]=>some ()
 | _,_=>none
def vioK{M:Type}(S:VioSpec)(vs:List AV)(σ:Env)(K:AV->Env->Option M):Option M:=match vs with
 | .one (.vptr id 0) :: us=>match σ.ob id with
  | .var cs=>match S.vt.ofAcs [] cs,q374 S.ps us with
   | some v,some x=>bif q51 S.rs then obind (S.fn v x) fun r=>
    K (tupAV (S.rs.resAV (ownAcs S.deep S.own σ.h.length (S.rs.acs r.1)).1)) ⟨σ.t,(σ.setOb id (.var (S.vt.acs r.2))).h++(ownAcs S.deep S.own σ.h.length (S.rs.acs r.1)).2⟩
    else none
   | _,_=>none
  | _=>none
 | _=>none
def withIO{M:Type}(L:HookL)(I:Inl M):Inl M:=fun f vs σ K=>match L.find f with
 | some (.rc S)=>recK S f vs σ K
 | some (.vio S)=>vioK S vs σ K
 | some (.io S)=>(match vs with
  | .one (.pin id e i off none) :: us=>ioPinK S id e i off us σ K
  | _=>ioK S vs σ K)
 | some (.row S)=>rowFnK S vs σ K
 | none=>I f vs σ K
def q54(o:Oper):Bool:=match o.op with
 | .store _ _ _=>false
 | .mapUpdate _ _ _ _=>false
 | .call { callee := .builtin .append,.. }=>false
 | .call { callee := .builtin .clear,.. }=>false
 | _=>true
def bindsB(e:Edge):Bool:=Region.binds .any e
def q61(o:Oper)(k:Nat):Bool:=o.after.toList.any fun e=>bindsB e && Nat.beq e.on k
def dstOf:List Oper->Nat->Nat->Option Nat
 | [],_,_=>none
 | o :: os,i,t=>bif (match o.dst with | some d=>Nat.beq d t | none=>false) then some i else dstOf os (i+1) t
def lateOk(ops:List Oper)(j k:Nat):Bool:=Nat.blt j k && (match ops[k]? with
 | some o=>q61 o j
 | none=>false)
def q68(ops:List Oper)(j:Nat)(o:Oper):Bool:=(o.op.operands.toList.all fun x=>match x with
 | .tmp t=>match dstOf ops 0 t with
  | some k=>q61 o k || lateOk ops j k
  | none=>true
 | _=>true) && (match o.guard with
 | some (g,_)=>q61 o g
 | none=>true)
def q41(o:Oper)(j:Nat):Bool:=o.after.toList.all fun e=>!bindsB e || Nat.blt e.on j
def dstsOk:List Oper->Bool
 | []=>true
 | o :: os=>(match o.dst with
  | some d=>(dstOf os 0 d).isNone
  | none=>true) && dstsOk os
def addA(f:Nat->List Nat)(x:Nat)(r:List Nat):List Nat:=bif r.contains x then r else x :: (f x++r)
def ancs(ops:List Oper):Nat->Nat->List Nat
 | 0,_=>[]
 | n+1,j=>match ops[j]? with
  | some o=>(o.after.toList.filter bindsB).foldr (fun e r=>addA (ancs ops n) e.on r) []
  | none=>[]
def tailOk(ops:List Oper)(j:Nat):Bool:=(List.range j).all fun k=>(ancs ops j j).contains k
def q45(ops:List Oper):List Oper->Nat->Nat
 | [],j=>j
 | o :: os,j=>bif q54 o then q45 ops os (j+1) else j
def q228(ops:List Oper)(s:Nat):Bool:=
 dstsOk ops && ((List.range ops.length).all fun j=>match ops[j]? with
  | some o=>q41 o j && q68 ops j o && (bif Nat.blt j s then true else tailOk ops j)
  | none=>false)
def drawOk(ops:List Oper):Bool:=q228 ops (q45 ops ops 0)
def q99(ops:List Oper):Nat:=ops.length - ((List.range ops.length).reverse.takeWhile (tailOk ops)).length
def q351(C:CtxL)(o:Oper):Bool:=match o.op with
 | .call { callee := .value (.func f),.. }=>!(C.any fun p=>Nat.beq p.1.1 f)
 | _=>false
def valB(o:Oper):Bool:=match o.op with
 | .call { callee := .value (.tmp _),.. }=>true
 | _=>false
def q707(C:CtxL)(ops:List Oper):Bool:=((ops.any fun o=>q351 C o || valB o) && !((ops.take (q99 ops)).any fun o=>q351 C o || valB o)) && (q228 ops (q99 ops) && ((ops.take (q99 ops)).all q54 && Nat.ble (q99 ops) ops.length))
def lateOp(ops:List Oper)(k:Nat):Bool:=match ops[k]? with
 | some o=>(match o.op with
  | .move (.tmp t) | .fieldAddr _ (.tmp t) _ | .load _ (.tmp t) | .extract (.tmp t) _ | .indexAddr _ (.tmp t) (.const _)=>(match dstOf ops 0 t with
   | some k'=>Nat.blt k' k
   | none=>true)
  | .binOp .eql _ (.tmp t) (.tmp t') _=>(match dstOf ops 0 t with
   | some k'=>Nat.blt k' k
   | none=>true) && (match dstOf ops 0 t' with
   | some k'=>Nat.blt k' k
   | none=>true)
  | .pick (.tmp t) (.tmp t') (.const _)=>(match dstOf ops 0 t with
   | some k'=>Nat.blt k' k
   | none=>true) && (match dstOf ops 0 t' with
   | some k'=>Nat.blt k' k
   | none=>true)
  | _=>false)
 | none=>false
def isSto(o:Oper):Bool:=o.guard.isNone && (match o.op with
 | .store _ _ _=>true
 | _=>false)
def q442(ops:List Oper):Bool:=
 Nat.blt (q45 ops ops 0) ops.length && (dstsOk ops && (List.range ops.length).all fun j=>match ops[j]? with
  | some o=>q41 o j && q68 ops j o && (bif Nat.blt j (q45 ops ops 0) then true else bif Nat.beq j (q45 ops ops 0) then (isApp o || isSto o) && (List.range j).all (fun k=>(ancs ops j j).contains k || lateOp ops k) else tailOk ops j)
  | none=>false)
def fromIx(ops:List Oper):Nat->Operand->Bool
 | n+1,.tmp t=>(match dstOf ops 0 t with
  | some k=>(match ops[k]? with
   | some o=>(match o.op with
    | .indexAddr _ _ _=>true
    | .fieldAddr _ x _=>fromIx ops n x
    | .nilCheck x=>fromIx ops n x
    | _=>false)
   | none=>false)
  | none=>false)
 | _,_=>false
def ixSto(ops:List Oper):Bool:=match ops[q45 ops ops 0]? with
 | some o=>(match o.op with
  | .store _ x _=>fromIx ops 4 x
  | _=>false)
 | none=>false
def varAt(σ:Env)(x:Operand):Bool:=match σ.ev x with
 | .one (.vptr id _)=>match σ.ob id with
  | .var _=>true
  | _=>false
 | _=>false
def lateO(σ:Env)(o:Oper):Bool:=match o.op with
 | .move _=>true
 | .extract _ _=>true
 | .fieldAddr _ x _=>varAt σ x
 | .load _ x=>varAt σ x
 | _=>false
def lateS(σ:Env)(id:Nat)(o:Oper):Bool:=match o.op with
 | .move _=>true
 | .extract _ _=>true
 | .fieldAddr _ x _=>(match σ.ev x with
  | .one (.vptr _ _)=>true
  | _=>false)
 | .load _ x=>(match σ.ev x with
  | .one (.vptr i _)=>!Nat.beq i id
  | .one (.eptr i _ _ _)=>!Nat.beq i id
  | _=>false)
 | .indexAddr _ x _=>(match σ.ev x with
  | .one (.own i)=>!Nat.beq i id
  | _=>false)
 | .binOp .eql _ x y _=>(match σ.ev x,σ.ev y with
  | .one (.str _),.one (.str _)=>true
  | _,_=>false)
 | .pick c _ _=>(match σ.ev c with
  | .one (.bool _)=>true
  | _=>false)
 | _=>false
def offG(σ:Env)(ops:List Oper)(o:Oper):Bool:=match o.guard with
 | some (g,want)=>(match q106 ops g with
  | some d=>(match (nth σ.t d (0,.one .bad)).2 with
   | .one (.bool b)=>!(b == want)
   | _=>false)
  | none=>false)
 | none=>false
def q163(σ:Env)(o:Oper):Bool:=match o.op with
 | .call { callee := .builtin .append,args:=args,.. }=>(match args.toList.map σ.ev with
  | [.one s,.one x]=>!x.isPin && (match s with
   | .own id=>(match σ.ob id with
    | .drow _ _=>false
    | _=>true)
   | .nils=>(match x with
    | .own xid=>(match σ.ob xid with
     | .crow _ _=>false
     | _=>true)
    | _=>true)
   | _=>true)
  | _=>true)
 | _=>true
def lateE(σ:Env)(ops:List Oper)(s:Nat):Bool:=match ops[s]? with
 | some os=>(match os.op with
  | .store _ x _=>(match σ.ev x with
   | .one (.vptr id _)=>(List.range s).all fun k=>(ancs ops s s).contains k || (match ops[k]? with
    | some o=>lateS σ id o || offG σ ops o
    | none=>false)
   | _=>false)
  | _=>q163 σ os && (List.range s).all fun k=>(ancs ops s s).contains k || (match ops[k]? with
   | some o=>lateO σ o
   | none=>false))
 | none=>false
def isHook(C:Ctx)(o:Oper):Bool:=o.guard.isNone && (match o.op with
 | .call { callee := .value (.func f),.. }=>(match C.io.find f with
  | some (.io _)=>true
  | some (.row _)=>true
  | _=>false) && !(C.fns.any fun p=>Nat.beq p.1.1 f)
 | _=>false)
def hookAt(C:Ctx):List Oper->Nat->Nat
 | [],j=>j
 | o :: os,j=>bif isHook C o then j else hookAt C os (j+1)
def q463(C:Ctx)(ops:List Oper):Bool:=
 Nat.blt (hookAt C ops 0) ops.length && ((ops.take (hookAt C ops 0)).all q54 && (dstsOk ops && (List.range ops.length).all fun j=>match ops[j]? with
  | some o=>q41 o j && q68 ops j o && (bif Nat.blt j (hookAt C ops 0) then true else bif Nat.beq j (hookAt C ops 0) then isHook C o && (List.range j).all (fun k=>(ancs ops j j).contains k || lateOp ops k) else tailOk ops j)
  | none=>false))
def vpB(σ:Env)(o:Oper):Bool:=match o.op with
 | .move _=>true
 | .extract _ _=>true
 | .nilCheck x=>(match σ.ev x with
  | .one (.vptr _ _)=>true
  | _=>false)
 | .fieldAddr _ x _=>(match σ.ev x with
  | .one (.vptr _ _)=>true
  | _=>false)
 | .load _ x=>(match σ.ev x with
  | .one (.vptr _ _)=>true
  | .one (.eptr _ _ _ _)=>true
  | _=>false)
 | .indexAddr _ x _=>(match σ.ev x with
  | .one (.own _)=>true
  | _=>false)
 | .store _ x _=>(match σ.ev x with
  | .one (.vptr _ _)=>true
  | .one (.eptr id _ _ _)=>(match σ.ob id with
   | .row _ _=>true
   | _=>false)
  | _=>false)
 | _=>false
def isBadC:AC->Bool
 | .bad=>true
 | _=>false
def kindC:Option (Bool×Nat)->AC->Bool
 | none=>fun _=>false
 | some (false,id)=>AC.has id
 | some (true,id)=>AC.hasI id
def kindF:Option (Bool×Nat)->AC->AC
 | none=>fun c=>c
 | some (false,id)=>AC.kill id
 | some (true,id)=>AC.killI id
structure Info6 where
 u:Option (Option (Bool×Nat)×Nat)
 v:AV
 base:Nat
 D:List Ob
 os:List AV
 kp:List Nat
def isUp(o:Oper):Bool:=isApp o || isSto o
def upd6(σ:Env)(o:Oper):Option (Option (Bool×Nat)×Nat):=match o.op with
 | .call { callee := .builtin .append,args,.. }=>(match args.toList with
  | [x,_]=>(match σ.ev x with
   | .one (.own id)=>bif q163 σ o then some (some (false,id),id) else none
   | _=>none)
  | _=>none)
 | .store _ x _=>bif vpB σ o then (match σ.ev x with
  | .one (.vptr id _)=>some (none,id)
  | .one (.eptr id _ _ _)=>some (none,id)
  | _=>none) else none
 | _=>none
def q299:AV->List Nat
 | .one (.own i)=>[i]
 | .one (.vptr i _)=>[i]
 | .one (.eptr i _ _ _)=>[i]
 | .one (.pin i _ _ _ _)=>[i]
 | _=>[]
def keep6(σ:Env)(o:Oper):List Nat:=match o.op with
 | .load _ x=>q299 (σ.ev x)
 | .fieldAddr _ x _=>q299 (σ.ev x)
 | .nilCheck x=>q299 (σ.ev x)
 | .indexAddr _ x _=>q299 (σ.ev x)
 | .call { callee := .builtin .len,args,.. }=>args.toList.flatMap fun x=>q299 (σ.ev x)
 | .call { callee := .value (.func _),args,.. }=>args.toList.flatMap fun x=>q299 (σ.ev x)
 | _=>[]
def slot6(σ:Env):Option Nat->AV
 | some d=>(nth σ.t d (0,.one .bad)).2
 | none => .one .und
def vioUp(C:Ctx)(σ:Env)(o:Oper):Option Nat:=match o.op with
 | .call { callee := .value (.func f),args,.. }=>(match C.io.find f with
  | some (.vio S)=>bif o.guard.isNone && (S.own.isEmpty && !(C.fns.any fun p=>Nat.beq p.1.1 f)) then (match args.toList.map σ.ev with
   | .one (.vptr id 0) :: _=>some id
   | _=>none) else none
  | _=>none)
 | _=>none
def reg6{M:Type}(P:Program)(C:Ctx):List Oper->Env->(List Info6->Env->Option M)->Option M
 | [],σ,K=>K [] σ
 | o :: os,σ,K=>match vioUp C σ o with
  | some id=>opK P C (withIO C.io noInl) σ o fun v σ'=>reg6 P C os (σ'.put o.dst v) fun is σn=>K (⟨some (none,id),slot6 (σ'.put o.dst v) o.dst,σ.h.length,[],[],[]⟩ :: is) σn
  | none=>bif isUp o then (match upd6 σ o with
   | some u=>opK P C noInl σ o fun v σ'=>q96 C o (σ'.put o.dst v) fun σ2=>reg6 P C os σ2 fun is σn=>K (⟨some u,slot6 σ2 o.dst,σ.h.length,[],[],[]⟩ :: is) σn
   | none=>none)
  else bif q54 o && o.guard.isNone then opK P C noInl ⟨σ.t,onlyH (keep6 σ o) σ.h 0⟩ o fun v E=>
   reg6 P C os (Env.put { σ with h:=σ.h++E.h.drop σ.h.length } o.dst v) fun is σn=>K (⟨none,v,σ.h.length,(E.h.drop σ.h.length).map (·.2),o.op.operands.toList.map σ.ev,keep6 σ o⟩ :: is) σn
  else none
def pair6(ops:List Oper)(i k:Nat)(x y:Info6):Bool:=(ancs ops k k).contains i || (match x.u,y.u with
 | none,none=>true
 | some (f,id),none=>!(y.v.anyC (kindC f)) && (!(y.D.any fun o=>o.anyC (kindC f)) && !(Nat.ble y.base id && Nat.blt id (y.base+y.D.length)))
 | none,some (f,id)=>!(x.v.anyC (kindC f)) && (!(x.D.any fun o=>o.anyC (kindC f)) && (!(Nat.ble x.base id && Nat.blt id (x.base+x.D.length)) && !(x.os.any fun v=>v.anyC (kindC f))))
 | some _,some _=>false)
def farU(id:Nat)(y:Info6):Bool:=match y.u with
 | some (f,j)=>f.isNone && !(Nat.beq j id)
 | none=>true
def one6(σ:Env)(ops:List Oper)(is:List Info6)(i:Nat)(x:Info6):Bool:=match x.u with
 | some (f,j)=>(f.isNone && Nat.blt j σ.h.length) || (List.range i).all fun k=>match is[k]? with
  | some y=>y.D.isEmpty || (ancs ops i i).contains k
  | none=>false
 | none=>!(x.os.any fun v=>v.anyC isBadC) && x.kp.all fun id=>(Nat.blt id σ.h.length && ((is.all fun y=>match y.u with
  | some (f,j)=>!(Nat.beq j id) && !((σ.ob id).anyC (kindC f))
  | none=>true) || (List.range is.length).all fun k=>match is[k]? with
   | some y=>farU id y || ((ancs ops i i).contains k || (ancs ops k k).contains i)
   | none=>true)) || ((Nat.ble σ.h.length id && is.all (farU id)) && (List.range i).any fun k=>(ancs ops i i).contains k && (match is[k]? with
   | some y=>y.u.isNone && (Nat.ble y.base id && Nat.blt id (y.base+y.D.length))
   | none=>false))
def looks6(ops:List Oper)(i:Nat)(o:Oper):Bool:=o.op.operands.toList.all fun x=>match x with
 | .tmp t=>(match dstOf ops 0 t with
  | some k=>q61 o k || (ancs ops k k).contains i
  | none=>true)
 | _=>true
def ok6(σ:Env)(ops:List Oper)(is:List Info6):Bool:=dstsOk ops && ((List.range ops.length).all fun j=>match ops[j]?,is[j]? with
 | some o,some x=>(q41 o j && looks6 ops j o) && (o.guard.isNone && (one6 σ ops is j x && (List.range j).all fun i=>match is[i]? with
  | some y=>pair6 ops i j y x
  | none=>false))
 | _,_=>false)
def tailE(ops:List Oper)(s:Nat):Bool:=Nat.ble s ops.length && (List.range ops.length).all fun j=>match ops[j]? with
 | some o=>q41 o j && (Nat.blt j s || tailOk ops j)
 | none=>false
@[reducible] def ksDen:List (Option Ty)->Type
 | []=>Unit
 | some E :: ks=>E.den×ksDen ks
 | none :: ks=>ksDen ks
@[reducible] def ShI.den:ShI->Type
 | .tmp _ E=>E.den
 | .var _ ks=>ksDen ks
 | .row _ e=>List e.den
 | .tree _ e=>List (List e.den)
 | .drow _ e=>List e.den
 | .map _ e=>List (Int×e.den)
@[reducible] def shDen:List ShI->Type
 | []=>Unit
 | i :: is=>i.den×shDen is
def decVar:(ks:List (Option Ty))->List AC->Option (ksDen ks)
 | [],[]=>some ()
 | some E :: ks,c :: cs=>both (E.ofAcs [] [c]) (decVar ks cs)
 | none :: ks,_ :: cs=>decVar ks cs
 | _,_=>none
def encVar:(ks:List (Option Ty))->ksDen ks->List AC->List AC
 | some E :: ks,x,_ :: cs=>E.acs x.1++encVar ks x.2 cs
 | none :: ks,x,c :: cs=>c :: encVar ks x cs
 | _,_,_=>[]
def ShI.dec(σ:Env):(i:ShI)->Option i.den
 | .tmp i E=>bif (nth σ.t i (0,.one .bad)).2.isAgg == E.isAgg && E.proper then E.ofAcs [] (nth σ.t i (0,.one .bad)).2.cells else none
 | .var id ks=>match σ.ob id with
  | .var cs=>decVar ks cs
  | _=>none
 | .row id e=>match σ.ob id with
  | .row _ xs=>Ty.castL (b:=e) xs
  | _=>none
 | .tree id e=>match σ.ob id with
  | .tree e' xs none=>Ty.castL (a := .slice e') (b := .slice e) xs
  | _=>none
 | .drow id e=>match σ.ob id with
  | .drow _ xs=>Ty.castL (b:=e) xs
  | _=>none
 | .map id e=>match σ.ob id with
  | .map e' xs=>Ty.castD (a := .map e') (b := .map e) xs
  | _=>none
def shDec(σ:Env):(l:List ShI)->Option (shDen l)
 | []=>some ()
 | i :: is=>both (i.dec σ) (shDec σ is)
def ShI.enc(σ:Env):(i:ShI)->i.den->Env
 | .tmp i E,x=>σ.put (some i) (E.av x)
 | .var id ks,x=>match σ.ob id with
  | .var cs=>σ.setOb id (.var (encVar ks x cs))
  | _=>σ
 | .row id e,x=>σ.setOb id (.row e x)
 | .tree id e,x=>σ.setOb id (.tree e x none)
 | .drow id e,x=>σ.setOb id (.drow e x)
 | .map id e,x=>σ.setOb id (.map e x)
def shEnc(σ:Env):(l:List ShI)->shDen l->Env
 | [],_=>σ
 | i :: is,x=>shEnc (i.enc σ x.1) is x.2
def AC.cut(n:Nat):AC->AC
 | .own i=>bif Nat.blt i n then .own i else .bad
 | .vptr i o=>bif Nat.blt i n then .vptr i o else .bad
 | .eptr i e k o=>bif Nat.blt i n then .eptr i e k o else .bad
 | .cloA g cs=>bif cs.all (Cap.below n) then .cloA g cs else .bad
 | .inn i k=>bif Nat.blt i n then .inn i k else .bad
 | .pin i e k o p=>bif Nat.blt i n then .pin i e k o p else .bad
 | .osub i e k=>bif Nat.blt i n then .osub i e k else .bad
 | .opre i e k=>bif Nat.blt i n then .opre i e k else .bad
 | c=>c
def AC.below(n:Nat):AC->Bool
 | .own i=>Nat.blt i n
 | .vptr i _=>Nat.blt i n
 | .eptr i _ _ _=>Nat.blt i n
 | .cloA _ cs=>cs.all (Cap.below n)
 | .inn i _=>Nat.blt i n
 | .pin i _ _ _ _=>Nat.blt i n
 | .osub i _ _=>Nat.blt i n
 | .opre i _ _=>Nat.blt i n
 | _=>true
def Env.dropT(σ:Env):List Nat->Env
 | []=>σ
 | i :: is=>Env.dropT (σ.put (some i) (.one .bad)) is
def Env.head(σ:Env)(hi:LHint):Env:=((σ.dropT hi.drop).mkOwn hi.fresh).mkOwnC hi.cells
def Env.cut(σ:Env)(n:Nat):Env:=⟨σ.t.map fun p=>(p.1,p.2.mapC (AC.cut n)),(σ.h.take n).map fun p=>(p.1,p.2.mapC (AC.cut n))⟩
def isBad:AV->Bool
 | .one .bad=>true
 | _=>false
def sameC:AC->AC->Bool
 | .own i,.own j=>Nat.beq i j
 | .vptr i o,.vptr j p=>Nat.beq i j && Nat.beq o p
 | .nils,.nils=>true
 | .nilp,.nilp=>true
 | .und,.und=>true
 | _,_=>false
def sameV:AV->AV->Bool
 | .one c,.one d=>sameC c d
 | _,_=>false
def ShI.hasT(i:Nat):ShI->Bool
 | .tmp j _=>Nat.beq j i
 | _=>false
def ShI.obj:ShI->Option Nat
 | .var id _=>some id
 | .row id _=>some id
 | .tree id _=>some id
 | .drow id _=>some id
 | .map id _=>some id
 | .tmp _ _=>none
def q55:List ShI->Bool
 | []=>true
 | i :: is=>(match i.obj with
  | some n=>!(is.any fun j=>match j.obj with
   | some m=>Nat.beq m n
   | none=>false)
  | none=>true) && q55 is
def sameT(sh:List ShI)(n:Nat):Nat->List (Nat×AV)->List (Nat×AV)->Bool
 | _,[],[]=>true
 | i,a :: as,b :: bs=>(sh.any (ShI.hasT i) || isBad a.2 || ((Nat.beq a.1 b.1 || sameV a.2 b.2) && a.2.anyC (fun c=>!c.below n) == false)) && sameT sh n (i+1) as bs
 | _,_,_=>false
def q384(n:Nat):List (Option Ty)->List AC->List AC->Bool
 | [],[],[]=>true
 | some _ :: ks,_ :: cs,_ :: ds=>q384 n ks cs ds
 | none :: ks,c :: cs,d :: ds=>sameC c d && c.below n && q384 n ks cs ds
 | _,_,_=>false
def ShI.hasH(n id:Nat)(a b:Ob):ShI->Bool
 | .var j ks=>Nat.beq j id && (match a,b with
  | .var cs,.var ds=>q384 n ks cs ds
  | _,_=>false)
 | .row j _=>Nat.beq j id
 | .tree j _=>Nat.beq j id
 | .drow j _=>Nat.beq j id
 | .map j _=>Nat.beq j id
 | _=>false
def sameH(sh:List ShI)(n:Nat):Nat->List (Nat×Ob)->List (Nat×Ob)->Bool
 | _,[],[]=>true
 | i,a :: as,b :: bs=>(sh.any (ShI.hasH n i a.2 b.2) || (Nat.beq a.1 b.1 && a.2.anyC (fun c=>!c.below n) == false)) && sameH sh n (i+1) as bs
 | _,_,_=>false
def frzOf:List (Nat×List (Nat×Option Ty))->Nat->List (Nat×Option Ty)
 | [],_=>[]
 | (k,l) :: r,i=>bif Nat.beq k i then l else frzOf r i
def hintOf:List (Nat×LHint)->Nat->Option LHint
 | [],_=>none
 | (k,h) :: r,i=>bif Nat.beq k i then some h else hintOf r i
section
variable {M:Type} (P:Program) (C:Ctx) (I:Inl M) (N:Nat) (H:Hints)
def backK(hi:LHint)(σ0:Env)(next:shDen hi.sh->Option M)(K:Exit->Env->Option M):Exit->Env->Option M
 | .normal,σ'=>
  bif q55 hi.sh && (sameT hi.sh σ0.h.length 0 σ0.t (σ'.ren hi.ren).t && sameH hi.sh σ0.h.length 0 σ0.h ((σ'.ren hi.ren).h.take σ0.h.length)) then
   match shDec ((σ'.ren hi.ren).cut σ0.h.length) hi.sh with
   | none=>none
   | some s'=>next s'
  else none
 | e,σ'=>K e σ'
def pev:Code->Nat->Env->(Exit->Env->Option M)->Option M
 | .skip,_,σ,K=>K .normal σ
 | .label _,_,σ,K=>K .normal σ
 | .region id ops draw,_,σ,K=>bif draw && q463 C ops.toList then
  match σ.freezes (frzOf H.frz id) with
  | some σ'=>regK P C noInl ops.toList (ops.toList.take (hookAt C ops.toList 0)) σ' fun σp=>bif lateE σp ops.toList (hookAt C ops.toList 0) then
   regK P C (withIO C.io noInl) ops.toList (ops.toList.drop (hookAt C ops.toList 0)) σp (K .normal)
   else none
  | none=>none
  else bif draw && q707 C.fns ops.toList then
   match σ.freezes (frzOf H.frz id) with
   | some σ'=>regK P C noInl ops.toList (ops.toList.take (q99 ops.toList)) σ' fun σp=>regK P C I ops.toList (ops.toList.drop (q99 ops.toList)) σp (K .normal)
   | none=>none
  else bif !draw || (drawOk ops.toList && !(ops.toList.any (q351 C.fns))) then
   match σ.freezes (frzOf H.frz id) with
   | some σ'=>regK P C (bif draw then noInl else I) ops.toList ops.toList σ' (K .normal)
   | none=>none
  else bif q442 ops.toList && (!(ops.toList.any (q351 C.fns)) && !ixSto ops.toList) then
   match σ.freezes (frzOf H.frz id) with
   | some σ'=>regK P C noInl ops.toList (ops.toList.take (q45 ops.toList ops.toList 0)) σ' fun σp=>bif lateE σp ops.toList (q45 ops.toList ops.toList 0) then
    regK P C I ops.toList (ops.toList.drop (q45 ops.toList ops.toList 0)) σp (K .normal)
    else none
   | none=>none
  else match σ.freezes (frzOf H.frz id) with
   | some σ'=>reg6 P C (ops.toList.take (q99 ops.toList)) σ' fun is σn=>bif ok6 σ' (ops.toList.take (q99 ops.toList)) is && tailE ops.toList (q99 ops.toList) then regK P C I ops.toList (ops.toList.drop (q99 ops.toList)) σn (K .normal) else none
   | none=>none
 | .seq a b,_,σ,K=>pev a 0 σ fun e σ'=>match e with
  | .normal=>pev b 0 σ' K
  | e=>K e σ'
 | .cond c x y,_,σ,K=>match σ.ev c with
  | .one (.bool t)=>bif t then pev x 0 (σ.refine c true) K else pev y 0 (σ.refine c false) K
  | _=>none
 | .block id c,_,σ,K=>pev c id σ fun e σ'=>match e with
  | .exit id'=>bif Nat.beq id' id then K .normal σ' else K (.exit id') σ'
  | e=>K e σ'
 | .loop c,bid,σ,K=>match hintOf H.loops bid,σ.freezes (frzOf H.frz (1000000+bid)) with
  | some hi,some σ1=>
   match shDec (σ1.head hi) hi.sh with
   | none=>none
   | some s0=>fixN N (fun next s=>pev c 0 (shEnc (σ1.head hi) hi.sh s) fun e σ'=>backK hi (σ1.head hi) next K e σ') s0
  | _,_=>none
 | .exit id,_,σ,K=>K (.exit id) σ
 | .ret,_,σ,K=>K .ret σ
 | _,_,_,_=>none
end
def resAVs(P:Program)(σ:Env):List ResultVar->Option (List AV)
 | []=>some []
 | .tmp t :: rs=>(resAVs P σ rs).map fun vs=>(nth σ.t t (0,.one .bad)).2 :: vs
 | .cell a ty :: rs=>match (nth σ.t a (0,.one .bad)).2 with
  | .one (.vptr id off)=>match σ.ob id with
   | .var cs=>loadK P σ ty cs off fun v _=>(resAVs P σ rs).map fun vs=>v :: vs
   | _=>none
  | _=>none
def aggsOk:Ty->List AV->Bool
 | .pair a b,v :: vs=>v.isAgg == a.isAgg && Nat.beq v.cells.length a.sz && a.proper && aggsOk b vs
 | .nil,[]=>true
 | _,_=>false
def q145(dp:Bool)(h:List (Nat×Ob)):List Bool->List AC->Option (List Nat×List AC)
 | true :: fs,.own id :: cs=>match (nth h id (0,.gone)).2,q145 dp h fs cs with
  | .row e xs,some (ids,cs')=>bif ids.contains id || (dp && !e.flat) then none else some (id :: ids,.slc e xs :: cs')
  | .drow e xs,some (ids,cs')=>bif ids.contains id || !(dp && !e.flat) then none else some (id :: ids,.slc e xs :: cs')
  | _,_=>none
 | true :: _,_=>none
 | false :: fs,c :: cs=>match q145 dp h fs cs with
  | some (ids,cs')=>some (ids,c :: cs')
  | none=>none
 | [],cs=>some ([],cs)
 | _,_=>none
def q74:List Nat->List (Nat×Ob)->List (Nat×Ob)
 | [],h=>h
 | id :: ids,h=>q74 ids (setN h id (0,.gone))
def retV(S : FnSpec)(vs : List AV)(σ : Env) : Option S.rs.den := bif aggsOk S.rs vs && !(vs.flatMap AV.cells).any isBadC then
        match q145 S.deep σ.h S.own (vs.flatMap AV.cells) with
        | some (ids,cs)=>S.rs.ofAcs (q74 ids σ.h) cs
        | none=>none
      else none
def retPin{M:Type}(σ:Env)(vs:List AV)(K:List AV->Env->Option M):Option M:=match vs with
 | .one (.pin id e i off none) :: rest=>σ.pinAt id e i off fun _ f zs=>bif f.flat then K (.one (.own σ.h.length) :: rest.map (AV.mapC (killsC [id]))) ((σ.takes [id]).newOb (.row f zs)) else none
 | vs=>K vs σ
def retK(P:Program)(S:FnSpec)(fn:Func)(e:Exit)(σ:Env):Option S.rs.den:=
 match e with
 | .normal | .ret=>match resAVs P σ fn.results.toList with
  | some vs=>retPin σ vs (retV S)
  | none=>none
 | _=>none
def entry(S:FnSpec)(fn:Func)(x:S.ps.den):Env:=⟨(S.ps.avs x++List.replicate (fn.ntmps - (S.ps.avs x).length) (AV.one AC.und)).map fun v=>(0,v),[]⟩
def findI:List InF->FuncId->Option InF
 | [],_=>none
 | x :: r,f=>bif Nat.beq x.fid f then some x else findI r f
def resV:List AV->AV
 | [v]=>v
 | vs => .tup (vs.map fun v=>(v.isAgg,v.cells))
def zipB:List (Nat×AV)->List (Nat×AV)->List (Nat×AV)
 | [],_=>[]
 | p :: ps,[]=>(p.1+1,.one .bad) :: zipB ps []
 | p :: ps,q :: qs=>(p.1+1,q.2) :: zipB ps qs
def q184(n:Nat)(h:List (Nat×Ob)):Bool:=h.all fun p=>match p.2 with
 | .frame k _=>Nat.blt n k
 | _=>true
def popK{M:Type}(P:Program)(m k:Nat)(t0:List (Nat×AV))(fn:Func)(K:AV->Env->Option M)(e:Exit)(σ:Env):Option M:=
 match e with
 | .normal | .ret=>match resAVs P σ fn.results.toList,nth σ.h m (0,.gone) with
  | some vs,(n,.frame k' l)=>bif Nat.beq k' k && q184 k (setN σ.h m (n+1,.gone)) then K ((resV vs).mapC (AC.kill m)) (Env.kill ⟨bif Nat.beq n 0 then t0 else zipB t0 l,setN σ.h m (n+1,.gone)⟩ m) else none
  | _,_=>none
 | _=>none
def q171(k:Nat)(fn:Func)(vs:List AV)(σ:Env):Env:=⟨(vs++List.replicate (fn.ntmps - vs.length) (AV.one AC.und)).map fun v=>(0,v),σ.h++[(0,.frame k σ.t)]⟩
def ownIds:List AV->List Nat
 | []=>[]
 | .one (.own id) :: vs=>id :: ownIds vs
 | _ :: vs=>ownIds vs
def q354(ids:List Nat):List (Nat×AV)->Nat->List Nat
 | [],_=>[]
 | (_,.one (.own id)) :: t,i=>bif ids.any (Nat.beq id) then i :: q354 ids t (i+1) else q354 ids t (i+1)
 | _ :: t,i=>q354 ids t (i+1)
def dropS(x:InF)(vs:List AV)(σ:Env):Env:=bif x.drop then σ.dropT (q354 (ownIds vs) σ.t 0) else σ
def inlK{M:Type}(P:Program)(fns:CtxL)(tabs:List (Nat×List ByteArray))(io:HookL)(N:Nat)(L:List InF):Nat->Inl M
 | 0=>noInl
 | n+1=>fun f vs σ K=>match findI L f with
  | some x=>match x.fn.body with
   | some c=>bif q184 n (dropS x vs σ).h then pev P ⟨fns,x.raw,[],tabs,io⟩ (withIO io (inlK P fns tabs io N L n)) N x.H c 0 (q171 n x.fn vs (dropS x vs σ)) (popK P (dropS x vs σ).h.length n (dropS x vs σ).t x.fn K) else none
   | none=>none
  | none=>none
def pevFn(P:Program)(C:Ctx)(N:Nat)(H:Hints)(S:FnSpec)(fn:Func)(x:S.ps.den):Option S.rs.den:=
 match fn.body with
 | some c=>pev P C (inlK P C.fns C.tabs C.io N C.inl 4) N H c 0 (entry S fn x) fun e σ=>retK P S fn e ((σ.mkOwn H.rets).mkOwnC H.retc)
 | none=>none
def entryW(fn:Func)(vs:List AV):Env:=⟨(vs++List.replicate (fn.ntmps - vs.length) (AV.one AC.und)).map fun v=>(0,v),[]⟩
def pevFnW(P:Program)(C:Ctx)(N:Nat)(H:Hints)(S:FnSpec)(fn:Func)(vs:List AV):Option S.rs.den:=
 match fn.body with
 | some c=>pev P C (inlK P C.fns C.tabs C.io N C.inl 4) N H c 0 (entryW fn vs) fun e σ=>retK P S fn e ((σ.mkOwn H.rets).mkOwnC H.retc)
 | none=>none
def Ext(w w':World):Prop:=Below w.heap.size w w'
theorem Ext.refl(w:World):Ext w w:=Below.refl _ _
theorem Ext.size{w w':World}(h:Ext w w'):w.heap.size<=w'.heap.size:=Below.size h
theorem Ext.trans{a b c:World}(h:Ext a b)(k:Ext b c):Ext a c:=Below.trans h (Below.mono k h.size)
theorem Ext.alloc{a w:World}(h:Ext a w)(o:Obj):Ext a (w.alloc o):=Below.alloc h h.size o
theorem Ext.drew{a w:World}(h:Ext a w):Ext a w.drew:=Below.drew h
theorem Ext.block{a w:World}(h:Ext a w){b:Nat}(hb:b<a.heap.size):w.heap[b]?=a.heap[b]?:=Below.block h b hb
structure Base where
 w:World
 io:Nat->Prop
 dfs:List Deferred
abbrev Base.of(w:World):Base:=⟨w,fun _=>False,[]⟩
def Base.new(B:Base)(b:Nat):Prop:=B.w.heap.size<=b\/B.io b
theorem Base.of_new{w:World}{b:Nat}(h:(Base.of w).new b):w.heap.size<=b:=h.elim id False.elim
structure BExt (B:Base) (w:World):Prop where
 low:Below 0 B.w w
 old:∀ b,¬ B.new b->w.heap[b]?=B.w.heap[b]?
theorem BExt.size{B:Base}{w:World}(h:BExt B w):B.w.heap.size<=w.heap.size:=h.low.size
theorem BExt.trans{B:Base}{w w':World}(h:BExt B w)(k:Ext w w'):BExt B w':=
 ⟨Below.trans h.low (Below.mono k (Nat.zero_le _)),fun b hb=>(k.block (aq (Nat.lt_of_not_le fun hh=>hb (.inl hh)) h.size)).trans (h.old b hb)⟩
theorem BExt.wrote{B:Base}{w w':World}(h:BExt B w)(k:Below 0 w w')(hw:∀ b,b<w.heap.size->¬ B.new b->w'.heap[b]?=w.heap[b]?):BExt B w':=
 ⟨Below.trans h.low k,fun b hb=>(hw b (aq (Nat.lt_of_not_le fun hh=>hb (.inl hh)) h.size) hb).trans (h.old b hb)⟩
theorem BExt.refl(w:World)(io:Nat->Prop){ds:List Deferred}:BExt ⟨w,io,ds⟩ w:=⟨Below.refl _ _,fun _ _=>rfl⟩
theorem BExt.of{w w':World}(h:BExt (Base.of w) w'):Ext w w':=
 ⟨h.low.os,h.low.tape,h.low.output,h.low.size,fun b hb=>h.old b fun hn=>absurd (Base.of_new hn) (by omega)⟩
theorem BExt.ofExt{w w':World}(h:Ext w w'):BExt (Base.of w) w':=(BExt.refl w _).trans h
structure Gh where
 blk:Option Nat
 hdr:Value
 inn:Nat->Option Nat
 ihdr:Nat->Value
abbrev Gh.mk0(b:Option Nat)(h:Value):Gh:=⟨b,h,fun _=>none,fun _=>h⟩
def Gh.has(g:Gh)(b:Nat):Prop:=g.blk=some b\/∃ i,g.inn i=some b
def Gh.ins(g:Gh)(b:Nat):Prop:=∃ i,g.inn i=some b
theorem Gh.has0{o:Option Nat}{h:Value}{b:Nat}:(Gh.mk0 o h).has b↔o=some b:=⟨fun k=>k.elim id fun ⟨_,e⟩=>(by cases e),.inl⟩
abbrev GM:=Nat->Option Gh
def imm(w0:Base)(ok0:Nat->Prop)(w:World)(G:GM)(b:Nat):Prop:=
 (ok0 b\/w0.new b)/\b<w.heap.size/\∀ id gh,G id=some gh->¬ gh.has b
def TabsAt(l:List (Nat×List ByteArray))(w:World):Prop:=∀ g xs,q233 l g=some xs->∀(i:Nat)(s:ByteArray),xs[i]?=some s->q39 w g i [.string s]/\s.size<=maxLen
theorem q150(w:World):TabsAt [] w:=fun g xs h=>by cases h
def RCap(w:World)(ok:Nat->Prop)(G:GM):Cap->Value->Prop
 | .vptr id off,v=>∃ gh b,G id=some gh/\gh.blk=some b/\v = .pointer (some ⟨b,off,none⟩)
 | .own id,v=>∃ gh,G id=some gh/\v=gh.hdr
 | .dat E x,v=>E.rp w ok [v] x
def Cap.leads(id:Nat):Cap->Prop
 | .vptr i _=>i=id
 | .own i=>i=id
 | .dat _ _=>False
theorem RCap.mono{w w':World}{ok ok':Nat->Prop}{G G':GM}{c:Cap}{v:Value}(h:RCap w ok G c v)(hk:∀ b,ok b->w'.heap[b]?=w.heap[b]?)(hm:∀ b,ok b->ok' b)
 (hG:∀ id gh,c.leads id->G id=some gh->G' id=some gh):RCap w' ok' G' c v:=by
 cases c with
 | vptr id off=>obtain ⟨gh,b,h1,h2⟩:=h; exact ⟨gh,b,hG id gh rfl h1,h2⟩
 | own id=>obtain ⟨gh,h1,h2⟩:=h; exact ⟨gh,hG id gh rfl h1,h2⟩
 | dat E x=>exact Ty.rp_keep _ h hk hm
def PinR(h:Value):Option (Ty×Nat×Nat)->Value->Prop
 | none,v=>v=h/\v.oneCell'=true
 | some (f,j,o2),v=>∃ b o n cap,h = .slice (some ⟨b,o,none⟩) n cap/\v = .pointer (some ⟨b,o+j * f.sz+o2,none⟩)
def RC(w:World)(ok:Nat->Prop)(G:GM):AC->Value->Prop
 | .bad,_=>True
 | .und,v=>v=undef
 | .int k n,v=>v = .int k n/\(Lit.int k n).wf=true
 | .bool b,v=>v = .bool b
 | .str s,v=>v = .string s/\s.size<=maxLen
 | .slc e xs,v=>(Ty.slice e).rp w ok [v] xs
 | .nils,v=>v = .slice none 0 0
 | .nilp,v=>v = .pointer none
 | .nilf,v=>v = .nilFunc
 | .ptr e p,v=>(Ty.ptr e).rp w ok [v] p
 | .own id,v=>∃ gh,G id=some gh/\v=gh.hdr
 | .vptr id off,v=>∃ gh b,G id=some gh/\gh.blk=some b/\v = .pointer (some ⟨b,off,none⟩)
 | .eptr id e i off,v=>∃ gh b,G id=some gh/\gh.blk=some b/\v = .pointer (some ⟨b,i * e.sz+off,none⟩)
 | .dptr e x off,v=>∃ b o us,v = .pointer (some ⟨b,o+off,none⟩)/\ok b/\e.rp w ok us x/\q39 w b o us
 | .clo g t x,v=>(Ty.clo g t).rp w ok [v] x
 | .cloA g cs,v=>∃ us:List Value,v = .func (.func g) #[] us.toArray/\us.length=cs.length/\∀(i:Nat)(c:Cap)(u:Value),cs[i]?=some c->us[i]?=some u->RCap w ok G c u
 | .inn id i,v=>∃ gh,G id=some gh/\v=gh.ihdr i/\v.oneCell'=true
 | .pin id e i off p,v=>∃ gh,G id=some gh/\PinR (gh.ihdr (i * e.sz+off)) p v
 | .slz _,v=>∃ n c,v = .slice none n c
 | .gl g,v=>v = .pointer (some ⟨g,0,none⟩)
 | .gidx g i,v=>v = .pointer (some ⟨g,i,none⟩)
 | .gsl g n,v=>v = .slice (some ⟨g,0,none⟩) n n/\n<=maxLen
 | .mp e xs,v=>(Ty.map e).rp w ok [v] xs
 | .opre id e m,v=>∃ gh A n c,G id=some gh/\gh.hdr = .slice A n c/\m<=n/\v = .slice A m c
 | .osub id e lo,v=>∃ gh A n c,G id=some gh/\gh.hdr = .slice A n c/\lo<=n/\n<=c/\v = .slice (if c=lo then A else A.map (·.add (lo * e.sz))) (n - lo) (c - lo)
 | .sln e xs,v=>(Ty.slice e).rp w ok [v] xs/\∃ A n c,v = .slice (some A) n c
def AC.leads(id:Nat):AC->Prop
 | .own i=>i=id
 | .vptr i _=>i=id
 | .eptr i _ _ _=>i=id
 | .cloA _ cs=>∃ c∈cs,c.leads id
 | .inn i _=>i=id
 | .pin i _ _ _ _=>i=id
 | .osub i _ _=>i=id
 | .opre i _ _=>i=id
 | _=>False
theorem RC.mono{w w':World}{ok ok':Nat->Prop}{G G':GM}{c:AC}{v:Value}(h:RC w ok G c v)(hk:∀ b,ok b->w'.heap[b]?=w.heap[b]?)(hm:∀ b,ok b->ok' b)
 (hG:∀ id gh,c.leads id->G id=some gh->G' id=some gh):RC w' ok' G' c v:=by
 cases c with
 | slc e xs=>exact Ty.rp_keep _ h hk hm
 | sln e xs=>exact ⟨Ty.rp_keep _ h.1 hk hm,h.2⟩
 | ptr e p=>exact Ty.rp_keep _ h hk hm
 | clo g t x=>exact Ty.rp_keep (.clo g t) h hk hm
 | mp e xs=>exact Ty.rp_keep (.map e) h hk hm
 | own id=>obtain ⟨gh,h1,h2⟩:=h; exact ⟨gh,hG id gh rfl h1,h2⟩
 | inn id i=>obtain ⟨gh,h1,h2⟩:=h; exact ⟨gh,hG id gh rfl h1,h2⟩
 | pin id e i off p=>obtain ⟨gh,h1,h2⟩:=h; exact ⟨gh,hG id gh rfl h1,h2⟩
 | opre id e lo=>obtain ⟨gh,A,n,c,h1,h2⟩:=h; exact ⟨gh,A,n,c,hG id gh rfl h1,h2⟩
 | osub id e lo=>obtain ⟨gh,A,n,c,h1,h2⟩:=h; exact ⟨gh,A,n,c,hG id gh rfl h1,h2⟩
 | vptr id off=>obtain ⟨gh,b,h1,h2⟩:=h; exact ⟨gh,b,hG id gh rfl h1,h2⟩
 | eptr id e i off=>obtain ⟨gh,b,h1,h2⟩:=h; exact ⟨gh,b,hG id gh rfl h1,h2⟩
 | dptr e x off=>
  obtain ⟨b,o,us,h1,h2,h3,h4⟩:=h;exact ⟨b,o,us,h1,hm b h2,Ty.rp_keep _ h3 hk hm,h4.keep (hk b h2)⟩
 | cloA g cs=>
  obtain ⟨us,h1,h2,h3⟩:=h;exact ⟨us,h1,h2,fun i c u hc hu=>(h3 i c u hc hu).mono hk hm fun id gh hl=>hG id gh ⟨c,ao hc,hl⟩⟩
 | _=>exact h
def RCs(w:World)(ok:Nat->Prop)(G:GM)(cs:List AC)(vs:List Value):Prop:=
 cs.length=vs.length/\∀(i:Nat)(c:AC)(v:Value),cs[i]?=some c->vs[i]?=some v->RC w ok G c v
theorem RCs.nil{w:World}{ok:Nat->Prop}{G:GM}:RCs w ok G [] []:=⟨rfl,fun i c v h=>by simp at h⟩
theorem RCs.cons{w:World}{ok:Nat->Prop}{G:GM}{c:AC}{v:Value}{cs:List AC}{vs:List Value}(h:RC w ok G c v)(hs:RCs w ok G cs vs):RCs w ok G (c :: cs) (v :: vs):=by
 refine ⟨by simp[hs.1],fun i a u ha hu=>?_⟩;cases i with
 | zero=>simp at ha hu; subst ha hu; exact h
 | succ i=>exact hs.2 i a u (by simpa using ha) (by simpa using hu)
theorem RCs.head{w:World}{ok:Nat->Prop}{G:GM}{c:AC}{v:Value}{cs:List AC}{vs:List Value}(h:RCs w ok G (c :: cs) (v :: vs)):RC w ok G c v:=h.2 0 c v rfl rfl
theorem RCs.tail{w:World}{ok:Nat->Prop}{G:GM}{c:AC}{v:Value}{cs:List AC}{vs:List Value}(h:RCs w ok G (c :: cs) (v :: vs)):RCs w ok G cs vs:=
 ⟨by simpa using h.1,fun i a u ha hu=>h.2 (i+1) a u (by simpa using ha) (by simpa using hu)⟩
theorem RCs.one{w:World}{ok:Nat->Prop}{G:GM}{c:AC}{vs:List Value}(h:RCs w ok G [c] vs):∃ v,vs=[v]/\RC w ok G c v:=by
 match vs,h with
 | [v],h=>exact ⟨v,rfl,h.head⟩
 | [],h=>exact absurd h.1 (by simp)
 | _ :: _ :: _,h=>exact absurd h.1 (by simp)
theorem RCs.append{w:World}{ok:Nat->Prop}{G:GM}{cs ds:List AC}{vs us:List Value}(h:RCs w ok G cs vs)(k:RCs w ok G ds us):RCs w ok G (cs++ds) (vs++us):=by
 refine ⟨by simp[h.1,k.1],fun i c v hc hv=>?_⟩;rw[bm] at hc hv;by_cases hi:i<cs.length
 .rw[ah hi] at hc;rw[ah (by rw[<- h.1]; exact hi)] at hv;exact h.2 i c v hc hv
 .rw[aa hi] at hc;rw[aa (by rw[<- h.1]; exact hi),<- h.1] at hv;exact k.2 _ c v hc hv
theorem RCs.take{w:World}{ok:Nat->Prop}{G:GM}{cs:List AC}{vs:List Value}(h:RCs w ok G cs vs)(n:Nat):RCs w ok G (cs.take n) (vs.take n):=by
 refine ⟨by simp[h.1],fun i c v hc hv=>?_⟩;rw[aC] at hc hv;split at hc
 .rename_i hi; rw[ah hi] at hv; exact h.2 i c v hc hv
 .cases hc
theorem RCs.drop{w:World}{ok:Nat->Prop}{G:GM}{cs:List AC}{vs:List Value}(h:RCs w ok G cs vs)(n:Nat):RCs w ok G (cs.drop n) (vs.drop n):=by refine ⟨by simp[h.1],fun i c v hc hv=>?_⟩;rw[bj] at hc hv;exact h.2 _ c v hc hv
theorem RCs.sub{w:World}{ok:Nat->Prop}{G:GM}{cs:List AC}{vs:List Value}(h:RCs w ok G cs vs)(o n:Nat):RCs w ok G (sub cs o n) (sub vs o n):=(h.drop o).take n
theorem RCs.mono{w w':World}{ok ok':Nat->Prop}{G G':GM}{cs:List AC}{vs:List Value}(h:RCs w ok G cs vs)(hk:∀ b,ok b->w'.heap[b]?=w.heap[b]?)(hm:∀ b,ok b->ok' b)
 (hG:∀ c∈cs,∀ id gh,c.leads id->G id=some gh->G' id=some gh):RCs w' ok' G' cs vs:=
 ⟨h.1,fun i c v hc hv=>(h.2 i c v hc hv).mono hk hm (hG c (ao hc))⟩
theorem RCs.map{w w':World}{ok ok':Nat->Prop}{G G':GM}{cs:List AC}{vs:List Value}{f:AC->AC}(h:RCs w ok G cs vs)(hf:∀ c v,c∈cs->RC w ok G c v->RC w' ok' G' (f c) v):RCs w' ok' G' (cs.map f) vs:=by refine ⟨by simp[h.1],fun i c v hc hv=>?_⟩;rw[ab] at hc;obtain ⟨c',hc',rfl⟩:=ae.1 hc;exact hf _ _ (ao hc') (h.2 i c' v hc' hv)
theorem getElem?_setN {B:Type}:∀(l:List B)(n i:Nat)(b:B),(setN l n b)[i]?=if i=n/\n<l.length then some b else l[i]?
 | [],n,i,b=>by simp[setN]
 | a :: l,0,i,b=>by cases i <;> simp[setN]
 | a :: l,n+1,i,b=>by
  cases i with
  | zero=>simp[setN]
  | succ i=>simp[setN,getElem?_setN l n i b]
theorem q12{B:Type}:∀(l:List B)(n:Nat)(b:B),(setN l n b).length=l.length
 | [],_,_=>rfl
 | _ :: _,0,_=>rfl
 | _ :: l,n+1,b=>by simp[setN,q12 l n b]
theorem nth_eq{B:Type}:∀(l:List B)(n:Nat)(d:B),nth l n d=(l[n]?).getD d
 | [],_,_=>rfl
 | _ :: _,0,_=>rfl
 | _ :: l,n+1,d=>by simp[nth,nth_eq l n d]
theorem q72{B:Type}:∀(bs l:List B)(o:Nat),(putN l o bs).length=l.length
 | [],l,o=>by cases l <;> rfl
 | b :: bs,l,o=>by
  have:putN l o (b :: bs)=putN (setN l o b) (o+1) bs:=by cases l <;> rfl
  rw[this,q72 bs,q12]
theorem q187{B:Type}(l:List B)(o:Nat)(b:B)(bs:List B):putN l o (b :: bs)=putN (setN l o b) (o+1) bs:=by cases l <;> rfl
theorem q276{B:Type}(l:List B)(o:Nat):putN l o []=l:=by cases l <;> rfl
theorem RCs.setN{w:World}{ok:Nat->Prop}{G:GM}{cs:List AC}{vs:List Value}{c:AC}{v:Value}(h:RCs w ok G cs vs)(n:Nat)(hc:RC w ok G c v):RCs w ok G (setN cs n c) (setN vs n v):=by
 refine ⟨by simp[q12,h.1],fun i a u ha hu=>?_⟩;rw[getElem?_setN] at ha hu;rw[<- h.1] at hu;split at ha
 .rename_i hi; rw[ah hi] at hu; cases ha; cases hu; exact hc
 .rename_i hi; rw[aa hi] at hu; exact h.2 i a u ha hu
theorem RCs.putN{w:World}{ok:Nat->Prop}{G:GM}:∀{ds:List AC}{us:List Value}{cs:List AC}{vs:List Value},RCs w ok G cs vs->RCs w ok G ds us->∀ n,RCs w ok G (putN cs n ds) (putN vs n us)
 | [],us,cs,vs,h,k,n=>by obtain rfl:us=[]:=al k.1.symm;rw[q276,q276]; exact h
 | d :: ds,[],cs,vs,h,k,n=>absurd k.1 (by simp)
 | d :: ds,u :: us,cs,vs,h,k,n=>by rw[q187,q187];exact (h.setN n k.head).putN k.tail (n+1)
theorem RC.one'{w:World}{ok:Nat->Prop}{G:GM}{c:AC}{v:Value}(h:RC w ok G c v)(hg:c.good=true)(hh:∀ id gh,G id=some gh->gh.hdr.oneCell'=true):v.oneCell'=true:=by
 cases c with
 | bad=>cases hg
 | und=>cases hg
 | int k n=>rw[h.1]; rfl
 | bool b=>rw[show v=_ from h]; rfl
 | str s=>rw[h.1]; rfl
 | slc e xs=>exact Ty.rp_one _ h v (by simp)
 | nils=>rw[show v=_ from h]; rfl
 | nilp=>rw[show v=_ from h]; rfl
 | nilf=>rw[show v=_ from h]; rfl
 | ptr e p=>exact Ty.rp_one _ h v (by simp)
 | own id=>obtain ⟨gh,h1,rfl⟩:=h; exact hh id gh h1
 | vptr id off=>obtain ⟨gh,b,_,_,rfl⟩:=h; rfl
 | eptr id e i off=>obtain ⟨gh,b,_,_,rfl⟩:=h; rfl
 | dptr e x off=>obtain ⟨b,o,us,rfl,_⟩:=h; rfl
 | clo g t x=>exact Ty.rp_one (.clo g t) h v (by simp)
 | mp e xs=>exact Ty.rp_one (.map e) h v (by simp)
 | cloA g cs=>obtain ⟨us,rfl,_⟩:=h; rfl
 | inn id i=>obtain ⟨gh,_,_,h⟩:=h; exact h
 | pin id e i off p=>
  obtain ⟨gh,_,h⟩:=h
  match p,h with
  | none,h=>exact h.2
  | some (f,j,o2),h=>obtain ⟨b,o,n,cap,_,rfl⟩:=h; rfl
 | sln e xs=>obtain ⟨_,A,n,c,rfl⟩:=h; rfl
 | slz e=>obtain ⟨n,c,rfl⟩:=h; rfl
 | gl g=>rw[show v=_ from h]; rfl
 | gidx g i=>rw[show v=_ from h]; rfl
 | gsl g n=>rw[h.1]; rfl
 | osub id e lo=>obtain ⟨_,_,_,_,_,_,_,_,rfl⟩:=h; rfl
 | opre id e lo=>obtain ⟨_,_,_,_,_,_,_,rfl⟩:=h; rfl
theorem RCs.one'{w:World}{ok:Nat->Prop}{G:GM}{cs:List AC}{vs:List Value}(h:RCs w ok G cs vs)(hg:cs.all AC.good=true)(hh:∀ id gh,G id=some gh->gh.hdr.oneCell'=true):∀ v∈vs,v.oneCell'=true:=by
 intro v hv;obtain ⟨i,hi⟩:=List.getElem?_of_mem hv;have hlt:i<cs.length:=by rw[h.1]; exact (aQ.1 hi).1
 have hc:cs[i]?=some cs[i]:=aW hlt;exact (h.2 i _ v hc hi).one' (ap.1 hg _ (aR hlt)) hh
def RV(w:World)(ok:Nat->Prop)(G:GM):AV->Value->Prop
 | .one c,v=>RC w ok G c v
 | .agg cs,v=>∃ vs:List Value,v = .agg vs.toArray/\RCs w ok G cs vs
 | .tup l,v=>∃ vs:List Value,v = .tuple vs.toArray/\vs.length=l.length/\∀(i:Nat)(p:Bool×List AC)(u:Value),l[i]?=some p->vs[i]?=some u->
  if p.1 then ∃ us:List Value,u = .agg us.toArray/\RCs w ok G p.2 us else RCs w ok G p.2 [u]
theorem RV.mono{w w':World}{ok ok':Nat->Prop}{G G':GM}{c:AV}{v:Value}(h:RV w ok G c v)(hk:∀ b,ok b->w'.heap[b]?=w.heap[b]?)(hm:∀ b,ok b->ok' b)
 (hG:∀ id gh,G id=some gh->G' id=some gh):RV w' ok' G' c v:=by
 cases c with
 | one c=>exact RC.mono h hk hm (fun id gh _=>hG id gh)
 | agg cs=>obtain ⟨vs,rfl,h⟩:=h; exact ⟨vs,rfl,h.mono hk hm (fun _ _ id gh _=>hG id gh)⟩
 | tup l=>
  obtain ⟨vs,rfl,hl,h⟩:=h;refine ⟨vs,rfl,hl,fun i p u hp hu=>?_⟩;have:=h i p u hp hu;split
  .rename_i hp1; rw[ah hp1] at this; obtain ⟨us,rfl,h⟩:=this; exact ⟨us,rfl,h.mono hk hm (fun _ _ id gh _=>hG id gh)⟩
  .rename_i hp1; rw[aa hp1] at this; exact this.mono hk hm (fun _ _ id gh _=>hG id gh)
theorem RV.mapC{w w':World}{ok ok':Nat->Prop}{G G':GM}{f:AC->AC}{c:AV}{v:Value}(h:RV w ok G c v)(hf:∀ c v,RC w ok G c v->RC w' ok' G' (f c) v):RV w' ok' G' (c.mapC f) v:=by
 cases c with
 | one c=>exact hf _ _ h
 | agg cs=>obtain ⟨vs,rfl,h⟩:=h; exact ⟨vs,rfl,h.map fun c v _=>hf c v⟩
 | tup l=>
  obtain ⟨vs,rfl,hl,h⟩:=h;refine ⟨vs,rfl,by simpa using hl,fun i p u hp hu=>?_⟩;rw[ab] at hp;obtain ⟨q,hq,rfl⟩:=ae.1 hp;have:=h i q u hq hu;split
  .rename_i hp1; rw[ah hp1] at this; obtain ⟨us,rfl,h⟩:=this; exact ⟨us,rfl,h.map fun c v _=>hf c v⟩
  .rename_i hp1; rw[aa hp1] at this; exact this.map fun c v _=>hf c v
def RowR(w:World)(ok:Nat->Prop)(blk:Option Nat)(hdr:Value)(e:Ty)(xs:List e.den):Prop:=
 (blk=none/\hdr = .slice none 0 0/\xs=[])\/
  ∃ (b cap:Nat) (cur:Array Value) (t:TypeId),blk=some b/\hdr = .slice (some ⟨b,0,none⟩) xs.length cap/\w.heap[b]?=some (.cells cur t (0,0))/\
   xs.length<=cap/\cap<=maxLen/\cur.size=cap * e.sz/\∀(i:Nat)(h:i<xs.length),∃ us,e.rp w ok us xs[i]/\∀ j u,us[j]?=some u->cur[i * e.sz+j]?=some u
theorem RowR.mono{w w':World}{ok ok':Nat->Prop}{blk:Option Nat}{hdr:Value}{e:Ty}{xs:List e.den}(h:RowR w ok blk hdr e xs)(hk:∀ b,ok b->w'.heap[b]?=w.heap[b]?)(hm:∀ b,ok b->ok' b)
 (hb:∀ b,blk=some b->w'.heap[b]?=w.heap[b]?):RowR w' ok' blk hdr e xs:=by
 rcases h with h | ⟨b,cap,cur,t,h1,h2,h3,h4,h5,h6,h7⟩
 .exact .inl h
 .exact .inr ⟨b,cap,cur,t,h1,h2,(hb b h1).trans h3,h4,h5,h6,fun i hi=>by obtain ⟨us,hr,hu⟩:=h7 i hi;exact ⟨us,Ty.rp_keep _ hr hk hm,hu⟩⟩
theorem RowR.hdr1{w:World}{ok:Nat->Prop}{blk:Option Nat}{hdr:Value}{e:Ty}{xs:List e.den}(h:RowR w ok blk hdr e xs):hdr.oneCell'=true:=by rcases h with ⟨_,h2,_⟩ | ⟨_,_,_,_,_,h2,_⟩ <;> rw[h2] <;> rfl
def MapR(w:World)(ok:Nat->Prop)(b:Nat)(e:Ty)(xs:List (Int×e.den)):Prop:=
 ∃ es clock,w.heap[b]?=some (.map es clock)/\es.size=xs.length/\
  ∀(i:Nat)(h:i<xs.length),∃ m us,es[i]?=some m/\m.key = .int .i64 xs[i].1/\e.rp w ok us xs[i].2/\m.val=pack1 e us
theorem MapR.mono{w w':World}{ok ok':Nat->Prop}{b:Nat}{e:Ty}{xs:List (Int×e.den)}(h:MapR w ok b e xs)(hk:∀ b,ok b->w'.heap[b]?=w.heap[b]?)(hm:∀ b,ok b->ok' b)
 (hb:w'.heap[b]?=w.heap[b]?):MapR w' ok' b e xs:=by
 obtain ⟨es,clock,h1,h2,h3⟩:=h;refine ⟨es,clock,hb.trans h1,h2,fun i hi=>?_⟩;obtain ⟨m,us,g1,g2,g3,g4⟩:=h3 i hi;exact ⟨m,us,g1,g2,Ty.rp_keep _ g3 hk hm,g4⟩
theorem Ty.rp_map{w:World}{ok:Nat->Prop}{e:Ty}{cs:List Value}{xs:List (Int×e.den)}:(Ty.map e).rp w ok cs xs↔∃ b,cs=[.map (some b)]/\ok b/\MapR w ok b e xs:=
 ⟨fun ⟨b,es,clock,h1,h2,h3,h4,h5⟩=>⟨b,h1,h2,es,clock,h3,h4,h5⟩,fun ⟨b,h1,h2,es,clock,h3,h4,h5⟩=>⟨b,es,clock,h1,h2,h3,h4,h5⟩⟩
def Solid(w:World)(b:Nat):Prop:=∃ (cur:Array Value) (t:TypeId),w.heap[b]?=some (.cells cur t (0,0))
theorem Solid.keep{w w':World}{b:Nat}(h:Solid w b)(hk:w'.heap[b]?=w.heap[b]?):Solid w' b:=by obtain ⟨cur,t,h⟩:=h;exact ⟨cur,t,hk.trans h⟩
def Sep(w:World)(gh:Gh)(e:Ty)(xs:List e.den):Prop:=
 ∀(g:Nat)(cur:Array Value)(t:TypeId),gh.blk=some g->w.heap[g]?=some (.cells cur t (0,0))->∀(i j i' j':Nat)(hi:i<xs.length)(hi':i'<xs.length)(f:Ty)(ys:List f.den)(c':AC)(b o n cap:Nat)(v':Value),(i≠i'\/j≠j')->
  (e.acs xs[i])[j]?=some (.slc f ys)->(e.acs xs[i'])[j']?=some c'->f.flat=true->cur[i * e.sz+j]?=some (.slice (some ⟨b,o,none⟩) n cap)->cur[i' * e.sz+j']?=some v'->RC w (fun d=>gh.ins d/\d≠b) (fun _=>none) c' v'
theorem Sep.mono{w w':World}{gh:Gh}{e:Ty}{xs:List e.den}(h:Sep w gh e xs)(hb:∀ b,gh.has b->w'.heap[b]?=w.heap[b]?):Sep w' gh e xs:=
 fun g cur t hg hh i j i' j' hi hi' f ys c' b o n cap v' hne h1 h2 h3 h5 h6=>
  (h g cur t hg ((hb g (.inl hg)).symm.trans hh) i j i' j' hi hi' f ys c' b o n cap v' hne h1 h2 h3 h5 h6).mono (fun d hd=>hb d (.inr hd.1)) (fun _ h=>h) (fun id gh' _ hk=>by cases hk)
def HdrOk(w:World)(gh:Gh)(e:Ty)(xs:List e.den):Prop:=
 ∀(g:Nat)(cur:Array Value)(t:TypeId),gh.blk=some g->w.heap[g]?=some (.cells cur t (0,0))->∀(i j:Nat)(hi:i<xs.length)(f:Ty)(ys:List f.den),(e.acs xs[i])[j]?=some (.slc f ys)->
  cur[i * e.sz+j]?=some (gh.ihdr (i * e.sz+j))/\(f.flat=true->∃ blk,RowR w (fun _=>False) blk (gh.ihdr (i * e.sz+j)) f ys/\∀ b,blk=some b->gh.ins b)
theorem HdrOk.mono{w w':World}{gh:Gh}{e:Ty}{xs:List e.den}(h:HdrOk w gh e xs)(hb:∀ b,gh.has b->w'.heap[b]?=w.heap[b]?):HdrOk w' gh e xs:=
 fun g cur t hg hh i j hi f ys hc=>by obtain ⟨h1,h2⟩:=h g cur t hg ((hb g (.inl hg)).symm.trans hh) i j hi f ys hc;refine ⟨h1,fun hf=>?_⟩;obtain ⟨blk,k1,k2⟩:=h2 hf;exact ⟨blk,k1.mono (fun _ h=>h.elim) (fun _ h=>h) (fun b hb'=>hb b (.inr (k2 b hb'))),k2⟩
def ObR(w:World)(ok:Nat->Prop)(G:GM)(gh:Gh):Ob->Prop
 | .var cs=>∃ (b:Nat) (vs:List Value) (t:TypeId),gh.blk=some b/\gh.hdr = .bool true/\w.heap[b]?=some (.cells vs.toArray t (0,0))/\RCs w ok G cs vs
 | .row e xs=>RowR w ok gh.blk gh.hdr e xs
 | .tree e xss p => ∃ (b cap : Nat) (cur : Array Value) (t : TypeId), gh.blk = some b /\ gh.hdr = .slice (some ⟨b, 0, none⟩) xss.length cap /\ w.heap[b]? = some (.cells cur t (0, 0)) /\
       xss.length<=cap/\cap<=maxLen/\cur.size=cap/\(∀ i b',gh.inn i=some b'->b'≠b)/\(∀ i j b',gh.inn i=some b'->gh.inn j=some b'->i=j)/\
       ∀(i:Nat)(h:i<xss.length),RowR w ok (gh.inn i) (gh.ihdr i) e xss[i]/\(p≠some i->cur[i]?=some (gh.ihdr i))
 | .drow e xs=>RowR w gh.ins gh.blk gh.hdr e xs/\(∀ b,gh.ins b->gh.blk≠some b)/\(∀ b,gh.ins b->Solid w b)/\Sep w gh e xs/\HdrOk w gh e xs
 | .map e xs=>∃ b,gh.blk=some b/\gh.hdr = .map (some b)/\MapR w ok b e xs
 | .crow e cs=>∃ (b:Nat) (vs:List Value) (t:TypeId),gh.blk=some b/\gh.hdr = .slice (some ⟨b,0,none⟩) 1 1/\w.heap[b]?=some (.cells vs.toArray t (0,0))/\vs.length=e.sz/\RCs w ok G cs vs
 | .gone=>False
 | .frame _ l=>gh.blk=none/\∃ vs:List Value,gh.hdr = .func (.func 0) #[] vs.toArray/\l.length=vs.length/\∀(i:Nat)(p:Nat×AV)(v:Value),l[i]?=some p->vs[i]?=some v->RV w ok G p.2 v
def Ob.uses(gh:Gh):Ob->Nat->Prop
 | .drow _ _,b=>gh.has b
 | _,b=>gh.blk=some b
theorem Ob.uses_has{gh:Gh}{ob:Ob}{b:Nat}(h:ob.uses gh b):gh.has b:=by cases ob <;> first | exact .inl h | exact h
theorem ObR.mono{w w':World}{ok ok':Nat->Prop}{G G':GM}{gh:Gh}{o:Ob}(h:ObR w ok G gh o)(hk:∀ b,ok b->w'.heap[b]?=w.heap[b]?)(hm:∀ b,ok b->ok' b)
 (hb:∀ b,gh.has b->w'.heap[b]?=w.heap[b]?) (hG:∀ id gh,G id=some gh->G' id=some gh):ObR w' ok' G' gh o:=by
 cases o with
 | var cs=>
  obtain ⟨b,vs,t,h1,h2,h3,h4⟩:=h;exact ⟨b,vs,t,h1,h2,(hb b (.inl h1)).trans h3,h4.mono hk hm (fun _ _ id gh _=>hG id gh)⟩
 | crow e cs=>
  obtain ⟨b,vs,t,h1,h2,h3,h5,h4⟩:=h;exact ⟨b,vs,t,h1,h2,(hb b (.inl h1)).trans h3,h5,h4.mono hk hm (fun _ _ id gh _=>hG id gh)⟩
 | row e xs=>exact RowR.mono h hk hm fun b hb'=>hb b (.inl hb')
 | tree e xss p=>
  obtain ⟨b,cap,cur,t,h1,h2,h3,h4,h5,h6,h7,h8,h9⟩:=h;exact ⟨b,cap,cur,t,h1,h2,(hb b (.inl h1)).trans h3,h4,h5,h6,h7,h8,fun i hi=>⟨(h9 i hi).1.mono hk hm fun b' hb'=>hb b' (.inr ⟨i,hb'⟩),(h9 i hi).2⟩⟩
 | drow e xs=>exact ⟨RowR.mono h.1 (fun b hb'=>hb b (.inr hb')) (fun _ h=>h) fun b hb'=>hb b (.inl hb'),h.2.1,fun b hb'=>(h.2.2.1 b hb').keep (hb b (.inr hb')),h.2.2.2.1.mono hb,h.2.2.2.2.mono hb⟩
 | map e xs=>obtain ⟨b,h1,h2,h3⟩:=h; exact ⟨b,h1,h2,h3.mono hk hm (hb b (.inl h1))⟩
 | gone=>exact h
 | frame k l=>
  obtain ⟨h0,vs,h1,h2,h3⟩:=h;exact ⟨h0,vs,h1,h2,fun i p v hp hv=>(h3 i p v hp hv).mono hk hm hG⟩
theorem ObR.mapC{w w':World}{ok ok':Nat->Prop}{G G':GM}{gh:Gh}{o:Ob}{f:AC->AC}(h:ObR w ok G gh o)(hk:∀ b,ok b->w'.heap[b]?=w.heap[b]?)(hm:∀ b,ok b->ok' b)
 (hb:∀ b,gh.has b->w'.heap[b]?=w.heap[b]?) (hf:∀ c v,RC w ok G c v->RC w' ok' G' (f c) v):ObR w' ok' G' gh (o.mapC f):=by
 cases o with
 | var cs=>
  obtain ⟨b,vs,t,h1,h2,h3,h4⟩:=h;exact ⟨b,vs,t,h1,h2,(hb b (.inl h1)).trans h3,h4.map fun c v _=>hf c v⟩
 | crow e cs=>
  obtain ⟨b,vs,t,h1,h2,h3,h5,h4⟩:=h;exact ⟨b,vs,t,h1,h2,(hb b (.inl h1)).trans h3,h5,h4.map fun c v _=>hf c v⟩
 | row e xs=>exact RowR.mono h hk hm fun b hb'=>hb b (.inl hb')
 | tree e xss p=>
  obtain ⟨b,cap,cur,t,h1,h2,h3,h4,h5,h6,h7,h8,h9⟩:=h;exact ⟨b,cap,cur,t,h1,h2,(hb b (.inl h1)).trans h3,h4,h5,h6,h7,h8,fun i hi=>⟨(h9 i hi).1.mono hk hm fun b' hb'=>hb b' (.inr ⟨i,hb'⟩),(h9 i hi).2⟩⟩
 | drow e xs=>exact ⟨RowR.mono h.1 (fun b hb'=>hb b (.inr hb')) (fun _ h=>h) fun b hb'=>hb b (.inl hb'),h.2.1,fun b hb'=>(h.2.2.1 b hb').keep (hb b (.inr hb')),h.2.2.2.1.mono hb,h.2.2.2.2.mono hb⟩
 | map e xs=>obtain ⟨b,h1,h2,h3⟩:=h; exact ⟨b,h1,h2,h3.mono hk hm (hb b (.inl h1))⟩
 | gone=>exact h
 | frame k l=>
  obtain ⟨h0,vs,h1,h2,h3⟩:=h;refine ⟨h0,vs,h1,by simpa using h2,fun i p v hp hv=>?_⟩;rw[ab] at hp;obtain ⟨q,hq,rfl⟩:=ae.1 hp;exact (h3 i q v hq hv).mapC hf
structure St (w0:Base) (ok0:Nat->Prop) (h:List (Nat×Ob)) (w:World) (G:GM):Prop where
 ob:∀ id gh,G id=some gh->∃ p,h[id]?=some p/\ObR w (imm w0 ok0 w G) G gh p.2
 inj:∀ id id' gh gh' b,G id=some gh->G id'=some gh'->gh.has b->gh'.has b->id=id'
 low:∀ id gh b,G id=some gh->gh.has b->w0.new b/\b<w.heap.size
 ext:BExt w0 w
def FrOk(fr:Nat->Value)(h:List (Nat×Ob))(G:GM):Prop:=
 ∀(id:Nat)(p:Nat×Ob)(k:Nat)(l:List (Nat×AV)),h[id]?=some p->p.2 = .frame k l->∃ gh,G id=some gh/\gh.hdr=fr k
theorem St.hdr{w0:Base}{ok0:Nat->Prop}{h:List (Nat×Ob)}{w:World}{G:GM}(H:St w0 ok0 h w G):∀ id gh,G id=some gh->gh.hdr.oneCell'=true:=by
 intro id gh hg;obtain ⟨p,_,ho⟩:=H.ob id gh hg;cases hp:p.2 with
 | var cs=>rw[hp] at ho; obtain ⟨_,_,_,_,h2,_⟩:=ho; rw[h2]; rfl
 | row e xs=>
  rw[hp] at ho;exact RowR.hdr1 ho
 | tree e xss q=>rw[hp] at ho; obtain ⟨_,_,_,_,_,h2,_⟩:=ho; rw[h2]; rfl
 | drow e xs=>rw[hp] at ho; exact RowR.hdr1 ho.1
 | crow e cs=>rw[hp] at ho; obtain ⟨_,_,_,_,h2,_⟩:=ho; rw[h2]; rfl
 | map e xs=>rw[hp] at ho; obtain ⟨_,_,h2,_⟩:=ho; rw[h2]; rfl
 | gone=>rw[hp] at ho; exact ho.elim
 | frame k l=>rw[hp] at ho; obtain ⟨_,_,h1,_⟩:=ho; rw[h1]; rfl
structure Later (w:World) (G:GM) (w':World) (G':GM):Prop where
 ext:Ext w w'
 old:∀ id gh,G id=some gh->G' id=some gh
 new:∀ id gh b,G' id=some gh->gh.has b->G id=some gh\/w.heap.size<=b
theorem Later.refl(w:World)(G:GM):Later w G w G:=⟨Ext.refl _,fun _ _ h=>h,fun _ _ _ h _ => .inl h⟩
theorem Later.of_ext{w w':World}(G:GM)(h:Ext w w'):Later w G w' G:=⟨h,fun _ _ h=>h,fun _ _ _ h _ => .inl h⟩
theorem Later.trans{w w' w'':World}{G G' G'':GM}(h:Later w G w' G')(k:Later w' G' w'' G''):Later w G w'' G'':=
 ⟨h.ext.trans k.ext,fun id gh hg=>k.old id gh (h.old id gh hg),fun id gh b hg hb=>by
  rcases k.new id gh b hg hb with h1 | h1
  .exact h.new id gh b h1 hb
  .exact .inr (bn h.ext.size h1)⟩
theorem Later.imm{w0:Base}{ok0:Nat->Prop}{w w':World}{G G':GM}(h:Later w G w' G'){b:Nat}(hb:imm w0 ok0 w G b):imm w0 ok0 w' G' b:=by
 refine ⟨hb.1,aq hb.2.1 h.ext.size,fun id gh hg he=>?_⟩;rcases h.new id gh b hg he with h1 | h1
 .exact hb.2.2 id gh h1 he
 .exact absurd hb.2.1 (by omega)
theorem Later.heap{w0:Base}{ok0:Nat->Prop}{w w':World}{G G':GM}(h:Later w G w' G'){b:Nat}(hb:Go.Proofs.YtefbaonpbemejabGreatDoor.imm w0 ok0 w G b):w'.heap[b]?=w.heap[b]?:=h.ext.block hb.2.1
theorem RC.later{w0:Base}{ok0:Nat->Prop}{w w':World}{G G':GM}{c:AC}{v:Value}(h:RC w (imm w0 ok0 w G) G c v)(l:Later w G w' G'):RC w' (imm w0 ok0 w' G') G' c v:=
 h.mono (fun _=>l.heap) (fun _=>l.imm) (fun id gh _=>l.old id gh)
theorem RCs.later{w0:Base}{ok0:Nat->Prop}{w w':World}{G G':GM}{c:List AC}{v:List Value}(h:RCs w (imm w0 ok0 w G) G c v)(l:Later w G w' G'):RCs w' (imm w0 ok0 w' G') G' c v:=
 h.mono (fun _=>l.heap) (fun _=>l.imm) (fun _ _ id gh _=>l.old id gh)
theorem RV.later{w0:Base}{ok0:Nat->Prop}{w w':World}{G G':GM}{c:AV}{v:Value}(h:RV w (imm w0 ok0 w G) G c v)(l:Later w G w' G'):RV w' (imm w0 ok0 w' G') G' c v:=
 h.mono (fun _=>l.heap) (fun _=>l.imm) l.old
theorem St.later{w0:Base}{ok0:Nat->Prop}{h h':List (Nat×Ob)}{w w':World}{G G':GM}(H:St w0 ok0 h w G)(l:Later w G w' G')
 (hh:∀ id p gh,h[id]?=some p->G id=some gh->∃ p',h'[id]?=some p'/\p'.2=p.2)
 (hn:∀ id gh,G' id=some gh->G id=some gh\/∃ p,h'[id]?=some p/\ObR w' (imm w0 ok0 w' G') G' gh p.2)
 (hi:∀ id id' gh gh' b,G' id=some gh->G' id'=some gh'->gh.has b->gh'.has b->w.heap.size<=b->id=id')
 (hl:∀ id gh b,G' id=some gh->gh.has b->b<w'.heap.size):St w0 ok0 h' w' G':=by
 refine ⟨fun id gh hg=>?_,fun id id' gh gh' b h1 h2 h3 h4=>?_,fun id gh b hg hb=>?_,H.ext.trans l.ext⟩
 .rcases hn id gh hg with h1 | h1
  .obtain ⟨p,hp,ho⟩:=H.ob id gh h1;obtain ⟨p',hp',he⟩:=hh id p gh hp h1;exact ⟨p',hp',by rw[he]; exact ho.mono (fun _=>l.heap) (fun _=>l.imm) (fun b hb=>l.ext.block (H.low id gh b h1 hb).2) l.old⟩
  .exact h1
 .rcases l.new id gh b h1 h3 with g1 | g1
  .rcases l.new id' gh' b h2 h4 with g2 | g2
   .exact H.inj id id' gh gh' b g1 g2 h3 h4
   .exact hi id id' gh gh' b h1 h2 h3 h4 g2
  .exact hi id id' gh gh' b h1 h2 h3 h4 g1
 .refine ⟨?_,hl id gh b hg hb⟩;rcases l.new id gh b hg hb with g1 | g1
  .exact (H.low id gh b g1 hb).1
  .exact .inl (bn H.ext.size g1)
structure Rel (w0:Base) (ok0:Nat->Prop) (fr:Nat->Value) (σ:Env) (a:Act) (w:World) (G:GM):Prop where
 len:σ.t.length=a.tmps.size
 tmp:∀(i:Nat)(p:Nat×AV)(v:Value),σ.t[i]?=some p->a.tmps[i]?=some v->RV w (imm w0 ok0 w G) G p.2 v
 dfs:a.defers=w0.dfs
 st:St w0 ok0 σ.h w G
 frm:FrOk fr σ.h G
theorem FrOk.later{fr:Nat->Value}{h:List (Nat×Ob)}{w w':World}{G G':GM}(H:FrOk fr h G)(l:Later w G w' G'):FrOk fr h G':=fun id p k m hp hk=>by obtain ⟨gh,h1,h2⟩:=H id p k m hp hk;exact ⟨gh,l.old id gh h1,h2⟩
theorem FrOk.append{fr:Nat->Value}{h D:List (Nat×Ob)}{G:GM}(H:FrOk fr h G)(hD:∀ p∈D,∀ k l,p.2 ≠ .frame k l):FrOk fr (h++D) G:=fun id p k m hp hk=>by
 rw[bm] at hp;split at hp
 .exact H id p k m hp hk
 .exact absurd hk (hD p (ao hp) k m)
theorem FrOk.append1{fr:Nat->Value}{h:List (Nat×Ob)}{p:Nat×Ob}{G:GM}(H:FrOk fr h G)(hD:∀ k l,p.2 ≠ .frame k l):FrOk fr (h++[p]) G:=
 H.append fun q hq k l=>by simp at hq; subst hq; exact hD k l
theorem FrOk.setN{fr:Nat->Value}{h:List (Nat×Ob)}{n:Nat}{p:Nat×Ob}{G:GM}(H:FrOk fr h G)(hp:∀ k l,p.2 ≠ .frame k l):FrOk fr (setN h n p) G:=fun id q k m hq hk=>by
 rw[getElem?_setN] at hq;split at hq
 .cases hq; exact absurd hk (hp k m)
 .exact H id q k m hq hk
theorem q206(w:World)(ok:Nat->Prop)(G:GM)(v:Value):RV w ok G (avOf v) v:=by
 have hac:∀ v,RC w ok G (acOf v) v:=by
  intro v;unfold acOf;split
  .rename_i k n;cases h:(Lit.int k n).wf
   .exact trivial
   .exact ⟨rfl,h⟩
  .rfl
  .rename_i s;by_cases h:s.size<=maxLen
   .simp only[h,decide_true,cond_true]; exact ⟨rfl,h⟩
   .simp only[h,decide_false,cond_false]; exact trivial
  .rfl
  .rfl
  .rfl
  .exact trivial
 unfold avOf;split
 .rename_i cs;refine ⟨cs.toList,by simp,by simp,fun i c v hc hv=>?_⟩;rw[ab,hv] at hc;cases hc;exact hac v
 .exact hac v
theorem Rel.ev{w0:Base}{ok0:Nat->Prop}{fr:Nat->Value}{σ:Env}{a:Act}{w:World}{G:GM}(H:Rel w0 ok0 fr σ a w G)(x:Operand):RV w (imm w0 ok0 w G) G (σ.ev x) (a.eval x):=by
 cases x with
 | tmp i=>
  simp only[Env.ev,nth_eq,Act.eval];by_cases hi:i<σ.t.length
  .have h1:σ.t[i]?=some σ.t[i]:=aW hi;have h2:a.tmps[i]?=some (a.tmps[i]'(by rw[<- H.len]; exact hi)):=ay _;rw[h1,am,h2];exact H.tmp i _ _ h1 h2
  .rw[aG (Nat.le_of_not_lt hi)];exact trivial
 | const v=>exact q206 _ _ _ v
 | global g=>exact rfl
 | func f=>exact ⟨[],rfl,rfl⟩
theorem Ty.acs_rc:∀(E:Ty){w:World}{ok:Nat->Prop}{G:GM}{us:List Value}{x:E.den},E.rp w ok us x->RCs w ok G (E.acs x) us
 | .int _,_,_,_,_,_,h=>by obtain ⟨rfl,h⟩:=h; exact RCs.cons ⟨rfl,h⟩ RCs.nil
 | .bool,_,_,_,_,_,h=>by rw[show _=_ from h]; exact RCs.cons rfl RCs.nil
 | .str,_,_,_,_,_,h=>by obtain ⟨rfl,h⟩:=h; exact RCs.cons ⟨rfl,h⟩ RCs.nil
 | .slice e,_,_,_,_,_,h=>by have h':=h;obtain ⟨A,cap,rfl,_⟩:=h';exact RCs.cons h RCs.nil
 | .ptr e,_,_,_,us,x,h=>by
  have hl:=Ty.rp_len _ h
  match us,hl,h with
  | [v],_,h=>exact RCs.cons h RCs.nil
 | .agg t,_,_,_,_,_,h=>t.acs_rc h
 | .nil,_,_,_,_,_,h=>by rw[show _=_ from h]; exact RCs.nil
 | .pair a b,_,_,_,_,_,h=>by obtain ⟨c1,c2,rfl,h1,h2⟩:=h;exact (a.acs_rc h1).append (b.acs_rc h2)
 | .clo g t,_,_,_,us,x,h=>by
  have hl:=Ty.rp_len _ h
  match us,hl,h with
  | [v],_,h=>exact RCs.cons h RCs.nil
 | .map e,_,_,_,us,x,h=>by
  have hl:=Ty.rp_len _ h
  match us,hl,h with
  | [v],_,h=>exact RCs.cons h RCs.nil
theorem Ty.av_rv(E:Ty){w:World}{ok:Nat->Prop}{G:GM}{us:List Value}{x:E.den}(h:E.rp w ok us x)(hp:∀ a b,E ≠ .pair a b)(hn:E ≠ .nil):RV w ok G (E.av x) (pack1 E us):=by
 have hr:=E.acs_rc (G:=G) h;cases E with
 | agg t=>exact ⟨us,rfl,hr⟩
 | nil=>exact absurd rfl hn
 | pair a b=>exact absurd rfl (hp a b)
 | int k=>obtain ⟨v,rfl,hv⟩:=hr.one; exact hv
 | bool=>obtain ⟨v,rfl,hv⟩:=hr.one; exact hv
 | str=>obtain ⟨v,rfl,hv⟩:=hr.one; exact hv
 | slice e=>obtain ⟨v,rfl,hv⟩:=hr.one; exact hv
 | ptr e=>obtain ⟨v,rfl,hv⟩:=hr.one; exact hv
 | clo g t=>obtain ⟨v,rfl,hv⟩:=hr.one; exact hv
 | map e=>obtain ⟨v,rfl,hv⟩:=hr.one; exact hv
theorem q708{B:Type}(l:List B)(o n j:Nat):(sub l o n)[j]?=if j<n then l[o+j]? else none:=by simp[sub,aC,bj]
theorem q39.sub{w:World}{b o:Nat}{us:List Value}(h:q39 w b o us)(off n:Nat):q39 w b (o+off) (sub us off n):=by
 intro j u hu;rw[q708] at hu;split at hu
 .have:=h _ u hu;rw[show o+off+j=o+(off+j) by omega];exact this
 .cases hu
theorem q23{w:World}{b:Nat}{cur:Array Value}{t:TypeId}(h:w.heap[b]?=some (.cells cur t (0,0)))(o:Nat):w.cell? ⟨b,o,none⟩=cur[o]?:=by simp[World.cell?,h]
theorem q673{B:Type}{b:Bool}{x:Option B}{r:B}(h:(bif b then x else none)=some r):b=true/\x=some r:=by
 cases b
 .cases h
 .exact ⟨rfl,h⟩
theorem Ty.ofAcs_rp(h:List (Nat×Ob)){w:World}{ok okR:Nat->Prop}{G:GM}(hm:∀ b,ok b->okR b)
 (Hob:∀ id gh,G id=some gh->(nth h id (0,.gone)).2 ≠ .gone->ObR w ok G gh (nth h id (0,.gone)).2/\∀ b,(nth h id (0,.gone)).2.uses gh b->okR b):
 ∀(E:Ty)(cs:List AC)(vs:List Value)(x:E.den),E.ofAcs h cs=some x->RCs w ok G cs vs->E.rp w okR vs x:=by
 intro E
 induction E with
 | int k=>
  intro cs vs x hx hr
  replace hx:ofInt k cs=some x:=hx
  unfold ofInt at hx;split at hx
  .rename_i k' n;obtain ⟨v,rfl,hv⟩:=hr.one;by_cases hk:k'=k
   .subst hk;simp at hx;subst hx;obtain ⟨rfl,hw⟩:=hv;exact ⟨rfl,hw⟩
   .simp[hk] at hx
  .cases hx
 | bool=>
  intro cs vs x hx hr
  replace hx:ofBool cs=some x:=hx
  unfold ofBool at hx;split at hx
  .obtain ⟨v,rfl,hv⟩:=hr.one;cases hx;obtain rfl:v=_:=hv;rfl
  .cases hx
 | str=>
  intro cs vs x hx hr
  replace hx:ofStr cs=some x:=hx
  unfold ofStr at hx;split at hx
  .obtain ⟨v,rfl,hv⟩:=hr.one;cases hx;obtain ⟨rfl,hw⟩:=hv;exact ⟨rfl,hw⟩
  .cases hx
 | slice e _=>
  intro cs vs x hx hr
  replace hx:q192 h e cs=some x:=hx
  unfold q192 at hx;split at hx
  .obtain ⟨v,rfl,hv⟩:=hr.one;obtain ⟨rfl,rfl⟩:=Ty.castL_eq hx;exact Ty.rp_keep (.slice _) hv (fun _ _=>rfl) hm
  .obtain ⟨v,rfl,hv⟩:=hr.one;cases hx;obtain rfl:v=_:=hv;exact ⟨none,0,rfl,af _,by simp[maxLen],fun h0=>absurd h0 (by simp)⟩
  .rename_i id;obtain ⟨v,rfl,gh,hg,rfl⟩:=hr.one;split at hx
   .rename_i e' xs ho;obtain ⟨rfl,rfl⟩:=Ty.castL_eq hx;obtain ⟨h1,h2⟩:=Hob id gh hg (by rw[ho]; simp);rw[ho] at h1 h2;rcases h1 with ⟨_,h3,rfl⟩ | ⟨b,cap,cur,t,hb,h3,h4,h5,h6,h7,h8⟩
    .rw[h3];exact ⟨none,0,rfl,af _,by simp[maxLen],fun h0=>absurd h0 (by simp)⟩
    .rw[h3];refine ⟨some ⟨b,0,none⟩,cap,rfl,h5,h6,fun _=>⟨b,0,rfl,h2 b hb,fun i hi=>?_⟩⟩;obtain ⟨us,hr,hu⟩:=h8 i hi;refine ⟨us,Ty.rp_keep _ hr (fun _ _=>rfl) hm,fun j u hj=>?_⟩;rw[q23 h4,Nat.zero_add];exact hu j u hj
   .rename_i e' xs ho;obtain ⟨rfl,rfl⟩:=Ty.castL_eq hx;obtain ⟨h1,h2⟩:=Hob id gh hg (by rw[ho]; simp);rw[ho] at h1 h2
    replace h2:∀ b,gh.has b->okR b:=h2
    rcases h1.1 with ⟨_,h3,rfl⟩ | ⟨b,cap,cur,t,hb,h3,h4,h5,h6,h7,h8⟩
    .rw[h3];exact ⟨none,0,rfl,af _,by simp[maxLen],fun h0=>absurd h0 (by simp)⟩
    .rw[h3];refine ⟨some ⟨b,0,none⟩,cap,rfl,h5,h6,fun _=>⟨b,0,rfl,h2 b (.inl hb),fun i hi=>?_⟩⟩;obtain ⟨us,hr,hu⟩:=h8 i hi;refine ⟨us,Ty.rp_keep _ hr (fun _ _=>rfl) (fun b' h=>h2 b' (.inr h)),fun j u hj=>?_⟩;rw[q23 h4,Nat.zero_add];exact hu j u hj
   .cases hx
  .cases hx
 | ptr e ih=>
  intro cs vs x hx hr
  replace hx:ofPtr h e (fun ds=>e.ofAcs h ds) cs=some x:=hx
  unfold ofPtr at hx;split at hx
  .obtain ⟨v,rfl,hv⟩:=hr.one;obtain ⟨rfl,rfl⟩:=Ty.castO_eq hx;exact Ty.rp_keep (.ptr _) hv (fun _ _=>rfl) hm
  .obtain ⟨v,rfl,hv⟩:=hr.one;cases hx;obtain rfl:v=_:=hv;rfl
  .rename_i id off;obtain ⟨v,rfl,gh,b,hg,hb,rfl⟩:=hr.one;split at hx
   .rename_i ds ho;obtain ⟨y,hy,rfl⟩:=ae.1 hx;obtain ⟨h1,h2⟩:=Hob id gh hg (by rw[ho]; simp);rw[ho] at h1 h2;obtain ⟨b',us,t,hb',_,h4,h5⟩:=h1;obtain rfl:b=b':=by rw[hb] at hb'; exact ak hb'
    refine ⟨b,off,_,rfl,h2 b hb,ih _ _ y hy (h5.sub off e.sz),?_⟩;have hc:q39 w b 0 us:=fun j u hj=>by rw[q23 h4]; simpa using hj
    have:=hc.sub off e.sz
    rwa [Nat.zero_add] at this
   .cases hx
  .rename_i e' x' off;obtain ⟨v,rfl,b,o,us,rfl,hb,hr',hc⟩:=hr.one;obtain ⟨y,hy,rfl⟩:=ae.1 hx;exact ⟨b,o+off,_,rfl,hm b hb,ih _ _ y hy ((e'.acs_rc hr').sub off e.sz),hc.sub off e.sz⟩
  .cases hx
 | agg t ih=>exact fun cs vs x hx hr=>ih cs vs x hx hr
 | nil=>
  intro cs vs x hx hr
  replace hx:ofNil cs=some x:=hx
  unfold ofNil at hx;split at hx
  .exact al hr.1.symm
  .cases hx
 | pair a b iha ihb=>
  intro cs vs x hx hr
  replace hx:both (a.ofAcs h (cs.take a.sz)) (b.ofAcs h (cs.drop a.sz))=some x:=hx
  unfold both at hx;split at hx
  .rename_i y z hy hz;cases hx;exact ⟨_,_,(bf a.sz vs).symm,iha _ _ y hy (hr.take _),ihb _ _ z hz (hr.drop _)⟩
  .cases hx
 | clo g t _=>
  intro cs vs x hx hr
  replace hx:ofClo g t cs=some x:=hx
  unfold ofClo at hx;split at hx
  .rename_i g' t' y;obtain ⟨v,rfl,hv⟩:=hr.one;obtain ⟨hg,hx⟩:=q673 hx;obtain rfl:=aU hg;obtain ⟨rfl,rfl⟩:=Ty.castD_eq hx;exact Ty.rp_keep (.clo _ _) hv (fun _ _=>rfl) hm
  .cases hx
 | map e _=>
  intro cs vs x hx hr
  replace hx:ofMap h e cs=some x:=hx
  unfold ofMap at hx;split at hx
  .obtain ⟨v,rfl,hv⟩:=hr.one;obtain ⟨h1,h2⟩:=Ty.castD_eq hx;cases h1;obtain rfl:x=_:=h2;exact Ty.rp_keep (.map _) hv (fun _ _=>rfl) hm
  .rename_i id;obtain ⟨v,rfl,gh,hg,rfl⟩:=hr.one;split at hx
   .rename_i e' xs ho;obtain ⟨h1,h2⟩:=Ty.castD_eq hx;cases h1;obtain rfl:x=_:=h2;obtain ⟨h3,h4⟩:=Hob id gh hg (by rw[ho]; simp);rw[ho] at h3 h4;obtain ⟨b,g1,g2,g3⟩:=h3;exact Ty.rp_map.2 ⟨b,by rw[g2],h4 b g1,g3.mono (fun _ _=>rfl) hm rfl⟩
   .cases hx
  .cases hx
theorem Ty.ofAcs_nil{w:World}{ok:Nat->Prop}{G:GM}{E:Ty}{cs:List AC}{vs:List Value}{x:E.den}(hx:E.ofAcs [] cs=some x)(hr:RCs w ok G cs vs):E.rp w ok vs x:=
 Ty.ofAcs_rp [] (okR:=ok) (fun _ h=>h) (fun id gh _ hn=>absurd rfl hn) E cs vs x hx hr
theorem q230{w:World}{ok okR:Nat->Prop}{G:GM}{gh:Gh}{e:Ty}{xs:List e.den}(hm:∀ b,ok b->okR b)(h:ObR w ok G gh (.row e xs))(h2:∀ b,gh.blk=some b->okR b):(Ty.slice e).rp w okR [gh.hdr] xs:=by
 rcases h with ⟨_,h3,rfl⟩ | ⟨b,cap,cur,t,hb,h3,h4,h5,h6,h7,h8⟩
 .rw[h3];exact ⟨none,0,rfl,af _,by simp[maxLen],fun h0=>absurd h0 (by simp)⟩
 .rw[h3];refine ⟨some ⟨b,0,none⟩,cap,rfl,h5,h6,fun _=>⟨b,0,rfl,h2 b hb,fun i hi=>?_⟩⟩;obtain ⟨us,hr,hu⟩:=h8 i hi;refine ⟨us,Ty.rp_keep _ hr (fun _ _=>rfl) hm,fun j u hj=>?_⟩;rw[q23 h4,Nat.zero_add];exact hu j u hj
theorem q602{w:World}{ok okR:Nat->Prop}{G:GM}{gh:Gh}{e:Ty}{xs:List e.den}(h:ObR w ok G gh (.drow e xs))(h2:∀ b,gh.has b->okR b):(Ty.slice e).rp w okR [gh.hdr] xs:=by
 rcases h.1 with ⟨_,h3,rfl⟩ | ⟨b,cap,cur,t,hb,h3,h4,h5,h6,h7,h8⟩
 .rw[h3];exact ⟨none,0,rfl,af _,by simp[maxLen],fun h0=>absurd h0 (by simp)⟩
 .rw[h3];refine ⟨some ⟨b,0,none⟩,cap,rfl,h5,h6,fun _=>⟨b,0,rfl,h2 b (.inl hb),fun i hi=>?_⟩⟩;obtain ⟨us,hr,hu⟩:=h8 i hi;refine ⟨us,Ty.rp_keep _ hr (fun _ _=>rfl) (fun b' h=>h2 b' (.inr h)),fun j u hj=>?_⟩;rw[q23 h4,Nat.zero_add];exact hu j u hj
theorem Ty.rp_flat:∀(E:Ty){w w':World}{ok ok':Nat->Prop}{cs:List Value}{x:E.den},E.flat=true->E.rp w ok cs x->E.rp w' ok' cs x
 | .int _,_,_,_,_,_,_,_,h=>h
 | .bool,_,_,_,_,_,_,_,h=>h
 | .str,_,_,_,_,_,_,_,h=>h
 | .slice _,_,_,_,_,_,_,hf,_=>by cases hf
 | .ptr _,_,_,_,_,_,_,hf,_=>by cases hf
 | .agg t,_,_,_,_,_,_,hf,h=>t.rp_flat hf h
 | .nil,_,_,_,_,_,_,_,h=>h
 | .clo _ _,_,_,_,_,_,_,hf,_=>by cases hf
 | .map _,_,_,_,_,_,_,hf,_=>by cases hf
 | .pair a b,_,_,_,_,_,_,hf,h=>by obtain ⟨c1,c2,rfl,h1,h2⟩:=h;simp only[Ty.flat,aT] at hf;exact ⟨c1,c2,rfl,a.rp_flat hf.1 h1,b.rp_flat hf.2 h2⟩
theorem RowR.flat{w w':World}{ok ok':Nat->Prop}{blk:Option Nat}{hdr:Value}{e:Ty}{xs:List e.den}(h:RowR w ok blk hdr e xs)(hf:e.flat=true):RowR w ok' blk hdr e xs:=by
 rcases h with h | ⟨b,cap,cur,t,h1,h2,h3,h4,h5,h6,h7⟩
 .exact .inl h
 .exact .inr ⟨b,cap,cur,t,h1,h2,h3,h4,h5,h6,fun i hi=>by obtain ⟨us,hr,hu⟩:=h7 i hi;exact ⟨us,Ty.rp_flat _ hf hr,hu⟩⟩
theorem q40:∀(E:Ty)(x:E.den),(E.acs x).length=E.sz
 | .int _,_=>rfl
 | .bool,_=>rfl
 | .str,_=>rfl
 | .slice _,_=>rfl
 | .ptr _,_=>rfl
 | .agg t,x=>q40 t x
 | .nil,_=>rfl
 | .pair a b,x=>by simp only[Ty.acs,aY,q40 a,q40 b]; rfl
 | .clo _ _,_=>rfl
 | .map _,_=>rfl
def Cell(h:List (Nat×Ob))(c d:AC):Prop:=∃ (E:Ty) (y:E.den),E.ofAcs h [c]=some y/\E.acs y=[d]
theorem Cell.slc{h:List (Nat×Ob)}{e:Ty}{xs:List e.den}{d:AC}(H:Cell h (.slc e xs) d):d = .slc e xs:=by
 obtain ⟨E,y,h1,h2⟩:=H
 induction E with
 | slice e' _=>
  replace h1:Ty.castL (b:=e') xs=some y:=h1
  obtain ⟨rfl,rfl⟩:=Ty.castL_eq h1;simpa [Ty.acs] using h2.symm
 | agg t ih=>exact ih y h1 h2
 | clo g t _=>cases h1
 | map e _=>cases h1
 | int k=>cases h1
 | bool=>cases h1
 | str=>cases h1
 | ptr e _=>cases h1
 | nil=>cases h1
 | pair a b iha ihb=>
  replace h1:both (a.ofAcs h ([AC.slc e xs].take a.sz)) (b.ofAcs h ([AC.slc e xs].drop a.sz))=some y:=h1
  unfold both at h1;split at h1
  .rename_i u v hu hv;cases h1;have hl:=congrArg List.length h2
   replace h2:a.acs u++b.acs v=[d]:=h2
   rcases Nat.eq_zero_or_pos a.sz with h0 | h0
   .have:a.acs u=[]:=al (by rw[q40,h0]);rw[this,List.nil_append] at h2;rw[h0] at hv;exact ihb v hv h2
   .have hb:b.acs v=[]:=by
     have:(a.acs u++b.acs v).length=1:=by rw[h2]; rfl
     rw[aY,q40] at this;exact al (by omega)
    rw[hb,List.append_nil] at h2;have ht:([AC.slc e xs].take a.sz)=[AC.slc e xs]:=List.take_of_length_le (by simp; omega);rw[ht] at hu;exact iha u hu h2
  .cases h1
theorem q91(h:List (Nat×Ob)):∀(E:Ty)(cs:List AC)(x:E.den),E.ofAcs h cs=some x->cs.length=E.sz/\∀(i:Nat)(c d:AC),cs[i]?=some c->(E.acs x)[i]?=some d->Cell h c d:=by
 have base:∀(E:Ty)(cs:List AC)(x:E.den),E.sz=1->cs.length=1->E.ofAcs h cs=some x->cs.length=E.sz/\∀(i:Nat)(c d:AC),cs[i]?=some c->(E.acs x)[i]?=some d->Cell h c d:=by
  intro E cs x hs hc hx;refine ⟨by rw[hs,hc],fun i c d hi hd=>?_⟩;have hl:=q40 E x;rw[hs] at hl;obtain ⟨c0,rfl⟩:=List.length_eq_one_iff.1 hc;obtain ⟨d0,hd0⟩:=List.length_eq_one_iff.1 hl;rw[hd0] at hd;cases i with
  | zero=>
   simp at hi hd;subst hi hd;exact ⟨E,x,hx,hd0⟩
  | succ i=>simp at hi
 intro E
 induction E with
 | int k=>
  intro cs x hx;refine base _ cs x rfl ?_ hx
  replace hx:ofInt k cs=some x:=hx
  unfold ofInt at hx;split at hx
  .rfl
  .cases hx
 | bool=>
  intro cs x hx;refine base _ cs x rfl ?_ hx
  replace hx:ofBool cs=some x:=hx
  unfold ofBool at hx;split at hx
  .rfl
  .cases hx
 | str=>
  intro cs x hx;refine base _ cs x rfl ?_ hx
  replace hx:ofStr cs=some x:=hx
  unfold ofStr at hx;split at hx
  .rfl
  .cases hx
 | slice e _=>
  intro cs x hx;refine base _ cs x rfl ?_ hx
  replace hx:q192 h e cs=some x:=hx
  unfold q192 at hx;split at hx <;> first | rfl | cases hx
 | ptr e _=>
  intro cs x hx;refine base _ cs x rfl ?_ hx
  replace hx:ofPtr h e (fun ds=>e.ofAcs h ds) cs=some x:=hx
  unfold ofPtr at hx;split at hx <;> first | rfl | cases hx
 | clo g t _=>
  intro cs x hx;refine base _ cs x rfl ?_ hx
  replace hx:ofClo g t cs=some x:=hx
  unfold ofClo at hx;split at hx <;> first | rfl | cases hx
 | map e _=>
  intro cs x hx;refine base _ cs x rfl ?_ hx
  replace hx:ofMap h e cs=some x:=hx
  unfold ofMap at hx;split at hx <;> first | rfl | cases hx
 | agg t ih=>exact fun cs x hx=>ih cs x hx
 | nil=>
  intro cs x hx
  replace hx:ofNil cs=some x:=hx
  unfold ofNil at hx;split at hx
  .exact ⟨rfl,fun i c d hi=>by simp at hi⟩
  .cases hx
 | pair a b iha ihb=>
  intro cs x hx
  replace hx:both (a.ofAcs h (cs.take a.sz)) (b.ofAcs h (cs.drop a.sz))=some x:=hx
  unfold both at hx;split at hx
  .rename_i y z hy hz;cases hx;obtain ⟨h1,h2⟩:=iha _ y hy;obtain ⟨h3,h4⟩:=ihb _ z hz;have hl:a.sz<=cs.length:=by rw[b8] at h1; omega
   rw[bQ] at h3;refine ⟨by show cs.length=a.sz+b.sz; omega,fun i c d hi hd=>?_⟩
   replace hd:(a.acs y++b.acs z)[i]?=some d:=hd
   by_cases hlt:i<a.sz
   .rw[aH (by rw[q40]; exact hlt)] at hd;exact h2 i c d (by rw[aC,ah hlt]; exact hi) hd
   .rw[aM (by rw[q40]; omega),q40] at hd;exact h4 (i - a.sz) c d (by rw[bj,show a.sz+(i - a.sz)=i by omega]; exact hi) hd
  .cases hx
theorem Cell.inv{h:List (Nat×Ob)}{c:AC}{f:Ty}{ys:List f.den}(H:Cell h c (.slc f ys)):(∃ (e:Ty) (xs:List e.den),c = .slc e xs)\/(c = .nils/\ys=[])\/∃ id,c = .own id/\((nth h id (0,.gone)).2 = .row f ys\/(nth h id (0,.gone)).2 = .drow f ys):=by
 obtain ⟨E,y,h1,h2⟩:=H
 induction E with
 | slice e' _=>
  have h2:[AC.slc e' y]=[AC.slc f ys]:=h2;have h3:=bg.1 h2;injection h3 with e1 e2
  subst e1;have e2:=eq_of_heq e2;subst e2
  replace h1:q192 h e' [c]=some y:=h1
  cases c <;> first | exact .inl ⟨_,_,rfl⟩ | (cases h1; done) | skip
  .cases h1; exact .inr (.inl ⟨rfl,rfl⟩)
  .rename_i id _;refine .inr (.inr ⟨id,rfl,?_⟩)
   replace h1:(match (nth h id (0,.gone)).2 with
    | .row _ xs=>Ty.castL (b:=e') xs
    | .drow _ xs=>Ty.castL (b:=e') xs
    | _=>none)=some y:=h1
   split at h1
   .rename_i hq;obtain ⟨rfl,he⟩:=Ty.castL_eq h1;obtain rfl:y=_:=he;exact .inl hq
   .rename_i hq;obtain ⟨rfl,he⟩:=Ty.castL_eq h1;obtain rfl:y=_:=he;exact .inr hq
   .cases h1
 | agg t ih=>exact ih y h1 h2
 | clo g t _=>simp[Ty.acs] at h2
 | map e _=>simp[Ty.acs] at h2
 | int k=>simp[Ty.acs] at h2
 | bool=>simp[Ty.acs] at h2
 | str=>simp[Ty.acs] at h2
 | ptr e _=>simp[Ty.acs] at h2
 | nil=>simp[Ty.acs] at h2
 | pair a b iha ihb=>
  replace h1:both (a.ofAcs h ([c].take a.sz)) (b.ofAcs h ([c].drop a.sz))=some y:=h1
  unfold both at h1;split at h1
  .rename_i u v hu hv;cases h1
   replace h2:a.acs u++b.acs v=[AC.slc f ys]:=h2
   rcases Nat.eq_zero_or_pos a.sz with h0 | h0
   .have:a.acs u=[]:=al (by rw[q40,h0]);rw[this,List.nil_append] at h2;rw[h0] at hv;exact ihb v hv h2
   .have hb:b.acs v=[]:=by
     have:(a.acs u++b.acs v).length=1:=by rw[h2]; rfl
     rw[aY,q40] at this;exact al (by omega)
    rw[hb,List.append_nil] at h2;have ht:([c].take a.sz)=[c]:=List.take_of_length_le (by simp; omega);rw[ht] at hu;exact iha u hu h2
  .cases h1
theorem q579(v:Value):(∀(e:Ty)(xs:List e.den),acOf v ≠ .slc e xs)/\∀ id,acOf v ≠ .own id:=by
 have key:acOf v = .bad\/(∃ k n,acOf v = .int k n)\/(∃ b,acOf v = .bool b)\/(∃ s,acOf v = .str s)\/acOf v = .nilp\/acOf v = .nils\/acOf v = .nilf:=by
  unfold acOf;split
  .rename_i k n;cases (Lit.int k n).wf
   .exact .inl rfl
   .exact .inr (.inl ⟨_,_,rfl⟩)
  .exact .inr (.inr (.inl ⟨_,rfl⟩))
  .rename_i s;cases decide (s.size<=maxLen)
   .exact .inl rfl
   .exact .inr (.inr (.inr (.inl ⟨_,rfl⟩)))
  .exact .inr (.inr (.inr (.inr (.inl rfl))))
  .exact .inr (.inr (.inr (.inr (.inr (.inl rfl)))))
  .exact .inr (.inr (.inr (.inr (.inr (.inr rfl)))))
  .exact .inl rfl
 rcases key with h | ⟨_,_,h⟩ | ⟨_,h⟩ | ⟨_,h⟩ | h | h | h <;> rw[h] <;> exact ⟨fun _ _ h=>(by cases h),fun _ h=>(by cases h)⟩
theorem q747(v:Value):∀ c∈(avOf v).cells,(∀(e:Ty)(xs:List e.den),c ≠ .slc e xs)/\∀ id,c ≠ .own id:=by
 intro c hc;unfold avOf at hc;split at hc
 .obtain ⟨u,_,rfl⟩:=bq.1 (show c∈_ from hc);exact q579 u
 .have hc:c∈[acOf v]:=hc;rw[bz.1 hc];exact q579 v
theorem q52(b o n:Nat):(⟨b,o,none⟩:Addr).add n=⟨b,o+n,none⟩:=by unfold Addr.add;split <;> simp_all
theorem q260{P:Program}{t:TypeId}{d:TypeDesc}(h:P.underlying t=some d):∃ i,P.info? t=some i:=by
 unfold Program.underlying at h;cases hi:P.info? t with
 | none=>simp[hi] at h
 | some i=>exact ⟨i,rfl⟩
theorem q529{P:Program}{t:TypeId}{d:TypeDesc}(h:P.underlying t=some d)(w:World):(sizeOf t).run P w = .ok (sizeT P t) w:=by obtain ⟨i,hi⟩:=q260 h;simp[sizeOf,typeInfo,sizeT,hi]
theorem q344{P:Program}{t:TypeId}{d:TypeDesc}(h:P.underlying t=some d)(w:World):(isAgg t).run P w = .ok (aggD d) w:=by simp only[isAgg,Sem.run_bind,run_underlying h,Result.andThen_ok];cases d <;> rfl
theorem q770{B:Type}{l:List B}{o n:Nat}(h:o+n<=l.length):(sub l o n).length=n:=by simp[sub]; omega
theorem q489{P:Program}{t:TypeId}{d:TypeDesc}(ht:P.underlying t=some d){w:World}{b o off:Nat}{us:List Value}(hc:q39 w b o us):
 (aggD d=true->off+sizeT P t<=us.length->(loadVar t ⟨b,o+off,none⟩).run P w = .ok (.agg (sub us off (sizeT P t)).toArray) w)/\
 (aggD d=false->∀ v,us[off]?=some v->(loadVar t ⟨b,o+off,none⟩).run P w = .ok v w):=by
 refine ⟨fun hd hl=>?_,fun hd v hv=>?_⟩
 .have h:=run_loadCells_list (P:=P) w ⟨b,o+off,none⟩ (sub us off (sizeT P t)) (fun j v hj=>by rw[q52]; exact hc.sub off _ j v hj);rw[q770 hl] at h;simp[loadVar,q344 ht,hd,q529 ht,h]
 .have h:=hc off v hv;simp[loadVar,q344 ht,hd,h]
theorem q686{P:Program}{t:TypeId}{d:TypeDesc}(ht:P.underlying t=some d){w:World}{off:Nat}{us:List Value}:
 (aggD d=true->(part t us.toArray off).run P w = .ok (.agg (sub us off (sizeT P t)).toArray) w)/\
 (aggD d=false->∀ v,us[off]?=some v->(part t us.toArray off).run P w = .ok v w):=by
 refine ⟨fun hd=>?_,fun hd v hv=>?_⟩
 .simp[part,q344 ht,hd,q529 ht,sub]
 .simp[part,q344 ht,hd,hv]
theorem wf_of{k:IntKind}{n:Int}(h1:k.min<=n)(h2:n<=k.max):(Lit.int k n).wf=true:=by simp[Lit.wf,h1,h2]
theorem wf_bd{k:IntKind}{n:Int}(h:(Lit.int k n).wf=true):k.min<=n/\n<=k.max:=by simpa [Lit.wf] using h
theorem q143(k:IntKind)(n:Int):(Lit.int k (k.wrap n)).wf=true:=by apply wf_of <;> cases k <;> simp[IntKind.wrap,IntKind.min,IntKind.max,IntKind.signed,IntKind.bits] <;> (try split) <;> omega
theorem q757{k:IntKind}{a:Int}(n:Nat)(h:(Lit.int k a).wf=true):(Lit.int k (a.fdiv (2 ^ n))).wf=true:=by
 obtain ⟨h1,h2⟩:=wf_bd h;have hp:(0:Int)<2 ^ n:=Int.pow_pos (by omega);rw[Int.fdiv_eq_ediv_of_nonneg _ (by omega)];have h0:k.min<=0:=by cases k <;> decide
 have h3:0<=k.max:=by cases k <;> decide
 by_cases ha:0<=a
 .have e1:0<=a / 2 ^ n:=Int.ediv_nonneg ha (by omega);have e2:a / 2 ^ n<=a:=Int.ediv_le_self _ ha;exact wf_of (by omega) (by omega)
 .have e1:a / 2 ^ n<0:=Int.ediv_neg_of_neg_of_pos (by omega) hp;have e2:a<=a / 2 ^ n:=by rw[Int.le_ediv_iff_mul_le hp];have:a * 2 ^ n<=a * 1:=Int.mul_le_mul_of_nonpos_left (by omega) (by omega);omega
  exact wf_of (by omega) (by omega)
theorem q752{k:IntKind}{a b:Int}(h:(Lit.int k a).wf=true):(Lit.int k (a.tmod b)).wf=true:=by
 obtain ⟨h1,h2⟩:=wf_bd h;have h0:k.min<=0/\0<=k.max:=by cases k <;> simp[IntKind.min,IntKind.max,IntKind.signed,IntKind.bits]
 rcases Int.le_total 0 a with ha | ha
 .have g1:=Int.tmod_nonneg b ha;have g2:a.tmod b<=a:=by have:=Int.natAbs_tmod a b;have h3:(a.natAbs % b.natAbs)<=a.natAbs:=Nat.mod_le _ _;omega
  exact wf_of (by omega) (by omega)
 .have g1:a.tmod b<=0:=by have:=Int.tmod_nonneg b (show 0 <= -a by omega);rw[Int.neg_tmod] at this; omega
  have g2:a<=a.tmod b:=by have:=Int.natAbs_tmod a b;have h3:(a.natAbs % b.natAbs)<=a.natAbs:=Nat.mod_le _ _;omega
  exact wf_of (by omega) (by omega)
theorem wf_len{n:Nat}(h:n<=maxLen):(Lit.int .i64 (n:Int)).wf=true:=by unfold maxLen at h;apply wf_of <;> simp[IntKind.min,IntKind.max,IntKind.signed,IntKind.bits] <;> omega
end Go.Proofs.YtefbaonpbemejabGreatDoor
