/- The functions' contracts. Printed by my dec.py. No condition of its own. -/
import Derived.Test.YtefbaonpbemejabGreatDoorPgL
import Derived.Test.YtefbaonpbemejabGreatDoorPvF1
import Derived.Test.YtefbaonpbemejabGreatDoorProg
import Derived.Test.YtefbaonpbemejabGreatDoorPgG
namespace Go.Proofs.YtefbaonpbemejabGreatDoor
abbrev tI:Ty:=.int .i64
abbrev tN:Ty:=.pair tI .nil
abbrev rG:=List.range'
open Go.RowKit
set_option maxRecDepth 100000
set_option linter.unusedVariables false
noncomputable section
abbrev CB(f:FuncId):Prop:=q13 Tryz.prog f
theorem cb{f : FuncId}{fn : Func}(h : Tryz.prog.funcs[f]? = some fn)(h1 : fn.body.isNone = false := by kernel_rfl)(h2 : (fn.name == "runtime.NumGoroutine") = false := by kernel_rfl) : CB f := ⟨_, h, h1, h2⟩
abbrev SN(f:FuncId)(S:FnSpec):Prop:=Sound Tryz.prog PRE f S
abbrev PRE0:World->Prop:=fun _=>True
theorem snd{Pre:World->Prop}(C:Ctx)(H:Hints)(N:Nat){f:FuncId}{fn:Func}{S:FnSpec}(hc:∀ p∈C.fns,Sound Tryz.prog Pre p.1.1 p.2/\q13 Tryz.prog p.1.1)(hf:Tryz.prog.funcs[f]?=some fn)(hm:Tryz.prog.follows .mixedOrders=true:=by kernel_rfl)(hp:q51 S.ps=true:=by kernel_rfl)
 (h:∀ x,pevFn Tryz.prog C N H S fn x=S.fn x:=by intro x; kernel_rfl) (hi:∀ x∈C.inl,Tryz.prog.funcs[x.fid]?=some x.fn/\q13 Tryz.prog x.fid:=by intro x hx; cases hx) (ht:∀ w,Pre w->TabsAt C.tabs w:=by exact fun w _=>q150 w) (hio:∀ p∈C.io,HookOk Tryz.prog p.1 p.2/\q13 Tryz.prog p.1:=by intro p hp; cases hp) (hx:∀ w w',Pre w->Ext w w'->Pre w':=by first | exact q193 | exact fun _ _ _ _=>trivial):Sound Tryz.prog Pre f S:=
 q516 (C:=C) (H:=H) (N:=N) (q372 hx hm hc hi ht hio) hf hp (fun x r k=>(h x).trans k)
theorem sndX{Pre:World->Prop}(C:Ctx)(H:Hints)(N:Nat){f:FuncId}{fn:Func}{S:FnSpec}(hc:∀ p∈C.fns,Sound Tryz.prog Pre p.1.1 p.2/\q13 Tryz.prog p.1.1)(hio:∀ p∈C.io,HookOk Tryz.prog p.1 p.2/\q13 Tryz.prog p.1)(hf:Tryz.prog.funcs[f]?=some fn)(hm:Tryz.prog.follows .mixedOrders=true:=by kernel_rfl)(hp:q51 S.ps=true:=by kernel_rfl)
 (h:∀ x,pevFnX Tryz.prog C N H S fn x=S.fn x:=by intro x; kernel_rfl) (hi:∀ x∈C.inl,Tryz.prog.funcs[x.fid]?=some x.fn/\q13 Tryz.prog x.fid:=by intro x hx; cases hx) (ht:∀ w,Pre w->TabsAt C.tabs w:=by exact fun w _=>q150 w) (hx:∀ w w',Pre w->Ext w w'->Pre w':=by first | exact q193 | exact fun _ _ _ _=>trivial):Sound Tryz.prog Pre f S:=
 q451 (C:=C) (H:=H) (N:=N) (q372 hx hm hc hi ht hio) hf hp (fun x r k=>(h x).trans k)
theorem sndV(C:Ctx)(H:Hints)(N:Nat){f:FuncId}{fn:Func}{S:VioSpec}(hc:∀ p∈C.fns,Sound Tryz.prog PRE0 p.1.1 p.2/\q13 Tryz.prog p.1.1)(hio:∀ p∈C.io,HookOk Tryz.prog p.1 p.2/\q13 Tryz.prog p.1)(hf:Tryz.prog.funcs[f]?=some fn)(hm:Tryz.prog.follows .mixedOrders=true:=by kernel_rfl)
 (h:∀ v x,pevFnV Tryz.prog C N H S fn v x=S.fn v x:=by intro v x; kernel_rfl) (hi:∀ x∈C.inl,Tryz.prog.funcs[x.fid]?=some x.fn/\q13 Tryz.prog x.fid:=by intro x hx; cases hx) (ht:∀ w,PRE0 w->TabsAt C.tabs w:=by exact fun w _=>q150 w) (hT:∀ w,PRE0 w:=by exact fun _=>trivial):VioOk Tryz.prog f S:=
 q631 (C:=C) (H:=H) (N:=N) (q372 (fun _ _ _ _=>trivial) hm hc hi ht hio) hT hf (fun v x r k=>(h v x).trans k)
theorem sndT(C:Ctx)(H:Hints)(N:Nat){f:FuncId}{fn:Func}{S:FnSpec}(hc:∀ p∈C.fns,Sound Tryz.prog PRE p.1.1 p.2/\q13 Tryz.prog p.1.1)(hf:Tryz.prog.funcs[f]?=some fn)(hm:Tryz.prog.follows .mixedOrders=true:=by kernel_rfl)(hp:q51 S.ps=true:=by kernel_rfl)
 (h:∀ x,pevFnT Tryz.prog C 69 N H S fn x=S.fn x:=by intro x; kernel_rfl) (hi:∀ x∈C.inl,Tryz.prog.funcs[x.fid]?=some x.fn/\q13 Tryz.prog x.fid:=by intro x hx; cases hx) (ht:∀ w,PRE w->TabsAt C.tabs w:=by exact fun w _=>q150 w) (hio:∀ p∈C.io,HookOk Tryz.prog p.1 p.2/\q13 Tryz.prog p.1:=by intro p hp; cases hp):SN f S:=
 q465 (C:=C) (H:=H) (N:=N) (lf:=69) (q372 q193 hm hc hi ht hio) q746 (cb Tryz.func69) hf hp (fun x r k=>(h x).trans k)
abbrev SN0(f:FuncId)(S:FnSpec):Prop:=Sound Tryz.prog PRE0 f S
abbrev rF(n:Nat):List Bool:=List.replicate n false
structure Ct (Pre:World->Prop) where
 k:FuncId×List FuncId
 S:FnSpec
 z:Sound Tryz.prog Pre k.1 S
 c:CB k.1
abbrev Ct0:=Ct PRE0
abbrev CtP:=Ct PRE
def up(c:Ct0):CtP:=⟨c.k,c.S,fun w a x r ok _=>c.z w a x r ok trivial,c.c⟩
instance:Coe Ct0 CtP:=⟨up⟩
theorem wk{f:FuncId}{S:FnSpec}(h:SN0 f S):SN f S:=fun w a x r ok _=>h w a x r ok trivial
def es{Pre:World->Prop}(l:List (Ct Pre)):CtxL:=l.map fun c=>(c.k,c.S)
abbrev es0(l:List Ct0):CtxL:=es l
abbrev esP(l:List CtP):CtxL:=es l
theorem ce{Pre:World->Prop}(l:List (Ct Pre)):∀ p∈es l,Sound Tryz.prog Pre p.1.1 p.2/\q13 Tryz.prog p.1.1:=by intro p hp;obtain ⟨c,_,rfl⟩:=bq.1 hp;exact ⟨c.z,c.c⟩
def ct{Pre:World->Prop}(S:FnSpec)(g:List FuncId)(H:Hints)(l:List (Ct Pre))(N:Nat){f:FuncId}{fn:Func}(hf:Tryz.prog.funcs[f]?=some fn)(hp:q51 S.ps=true:=by kernel_rfl)
 (h : ∀ x, pevFn Tryz.prog ⟨es l, [], [], [], []⟩ N H S fn x = S.fn x := by intro x; kernel_rfl) (h1 : fn.body.isNone = false := by kernel_rfl) (h2 : (fn.name == "runtime.NumGoroutine") = false := by kernel_rfl) (hx : ∀ w w', Pre w → Ext w w' → Pre w' := by first | exact q193 | exact fun _ _ _ _ => trivial) : Ct Pre :=
 ⟨(f,g),S,snd ⟨es l,[],[],[],[]⟩ H N (ce l) hf (hp:=hp) (h:=h) (hx:=hx),_,hf,h1,h2⟩
def ctA{Pre:World->Prop}(ps rs:Ty)(F:ps.den->Option rs.den)(H:Hints)(l:List (Ct Pre))(N:Nat){f:FuncId}{fn:Func}(hf:Tryz.prog.funcs[f]?=some fn)(hp:q51 ps=true:=by kernel_rfl)
 (h : ∀ x, pevFn Tryz.prog ⟨es l, [], [], [], []⟩ N H ⟨ps, rs, [false], F, false⟩ fn x = F x := by intro x; kernel_rfl) (h1 : fn.body.isNone = false := by kernel_rfl) (h2 : (fn.name == "runtime.NumGoroutine") = false := by kernel_rfl) (hx : ∀ w w', Pre w → Ext w w' → Pre w' := by first | exact q193 | exact fun _ _ _ _ => trivial) : Ct Pre :=
 ct ⟨ps,rs,[false],F,false⟩ [] H l N hf hp h h1 h2 hx
abbrev hnn:Hints:=⟨[],[],[],[]⟩
def ctB{Pre:World->Prop}(ps rs:Ty)(F:ps.den->Option rs.den)(l:List (Ct Pre))(N:Nat){f:FuncId}{fn:Func}(hf:Tryz.prog.funcs[f]?=some fn)(hp:q51 ps=true:=by kernel_rfl)
 (h : ∀ x, pevFn Tryz.prog ⟨es l, [], [], [], []⟩ N hnn ⟨ps, rs, [false], F, false⟩ fn x = F x := by intro x; kernel_rfl) (h1 : fn.body.isNone = false := by kernel_rfl) (h2 : (fn.name == "runtime.NumGoroutine") = false := by kernel_rfl) (hx : ∀ w w', Pre w → Ext w w' → Pre w' := by first | exact q193 | exact fun _ _ _ _ => trivial) : Ct Pre :=
 ctA ps rs F hnn l N hf hp h h1 h2 hx
variable (N:Nat)
def c0:CtP:=ctB (.pair (.slice (.int .u8)) .nil) (.pair .bool .nil) (F_24 N) [] N Tryz.func14
def S_0(N:Nat):VioSpec:=⟨Tl01Source,tN,tN,[],fun v x=>F_0 N (v,x),false⟩
theorem K_0:CB 146:=cb Tryz.func146
theorem Z_0(N:Nat):VioOk Tryz.prog 146 (S_0 N):=sndV ⟨[],[],[],[],[]⟩ ⟨[],[],[],[]⟩ N (q140) (q82) Tryz.func146
def c1:Ct0:=ctA (.pair TCell tN) tN (F_25 N) ⟨[(0,⟨[.tmp 8 tI,.tmp 5 .bool,.tmp 6 .bool],rG 12 43,[],[],[]⟩)],[],[],[]⟩ [] N Tryz.func273
def S_1(N:Nat):VioSpec:=⟨Tl01Source,tN,(.pair (.slice tI) .nil),[],fun v x=>F_1 N (v,x),false⟩
theorem Z_1(N:Nat):VioOk Tryz.prog 291 (S_1 N):=sndV ⟨[],[],[],[],[(146,.vio (S_0 N))]⟩ ⟨[(0,⟨[.tmp 6 tI,.tmp 7 tI,.var 0 [some (.slice (.int .u8)),some tI,some tI],.row 2 tI],[8]++rG 15 14,[],[],[]⟩)],[],[],[]⟩ N (q140) ((q32 (Z_0 N) K_0 q82)) Tryz.func291
def S_2(N:Nat):VioSpec:=⟨Tl01Source,tN,(.pair TTable .nil),[],fun v x=>F_2 N (v,x),false⟩
theorem Z_2(N:Nat):VioOk Tryz.prog 289 (S_2 N):=sndV ⟨[],[],[],[],[(146,.vio (S_0 N)),(291,.vio (S_1 N))]⟩ ⟨[(0,⟨[.tmp 9 tI,.var 0 [some (.slice (.int .u8)),some tI,some tI],.row 3 tI],[10,15]++rG 18 44,[],[],[]⟩)],[],[],[]⟩ N (q140) ((q32 (Z_0 N) K_0 (q32 (Z_1 N) (cb Tryz.func291) q82))) Tryz.func289
def S_3(N:Nat):VioSpec:=⟨Tl01Source,tN,(.pair (.slice TTable) .nil),[],fun v x=>F_3 N (v,x),false⟩
theorem Z_3(N:Nat):VioOk Tryz.prog 285 (S_3 N):=sndV ⟨[],[],[],[],[(289,.vio (S_2 N))]⟩ ⟨[],[],[],[]⟩ N (q140) ((q32 (Z_2 N) (cb Tryz.func289) q82)) Tryz.func285
def S_4(N:Nat):VioSpec:=⟨Tl01Source,(.pair tI (.pair tI (.pair tI tN))),(.pair TArc .nil),[],fun v x=>F_4 N (v,x),false⟩
theorem K_4:CB 274:=cb Tryz.func274
theorem Z_4(N:Nat):VioOk Tryz.prog 274 (S_4 N):=sndV ⟨[],[],[],[],[(146,.vio (S_0 N)),(285,.vio (S_3 N))]⟩ ⟨[],[],[],[]⟩ N (q140) ((q32 (Z_0 N) K_0 (q32 (Z_3 N) (cb Tryz.func285) q82))) Tryz.func274
def S_5(N:Nat):VioSpec:=⟨Tl01Source,(.pair .str (.pair (.slice tI) .nil)),(.pair TCell .nil),[],fun v x=>F_5 N (v,x),false⟩
theorem Z_5(N:Nat):VioOk Tryz.prog 253 (S_5 N):=sndV ⟨es0 [c1 N],[],[],[],[(146,.vio (S_0 N)),(274,.vio (S_4 N))]⟩ ⟨[(0,⟨[.tmp 10 tI,.var 0 [some (.slice (.int .u8)),some tI,some tI],.row 5 TPin],rG 23 19,[],[],[]⟩),(2,⟨[.tmp 13 tI,.var 0 [some (.slice (.int .u8)),some tI,some tI],.row 7 TArc],[14]++rG 49 19,[],[],[]⟩)],[],[],[]⟩ N (ce _) ((q32 (Z_0 N) K_0 (q32 (Z_4 N) K_4 q82))) Tryz.func253
def S_6(N:Nat):VioSpec:=⟨Tl01Source,(.pair .str (.pair tI tN)),(.pair TCell .nil),[],fun v x=>F_6 N (v,x),false⟩
theorem Z_6(N:Nat):VioOk Tryz.prog 254 (S_6 N):=sndV ⟨[],[],[],[],[(146,.vio (S_0 N)),(274,.vio (S_4 N))]⟩ ⟨[],[],[],[]⟩ N (q140) ((q32 (Z_0 N) K_0 (q32 (Z_4 N) K_4 q82))) Tryz.func254
def S_7(N:Nat):VioSpec:=⟨Tl01Source,.nil,(.pair TLibrary .nil),[],fun v x=>F_7 N (v,x),false⟩
theorem Z_7(N:Nat):VioOk Tryz.prog 222 (S_7 N):=sndV ⟨[],[14,17,20,23,26],[],[],[(253,.vio (S_5 N)),(254,.vio (S_6 N))]⟩ ⟨[],[],[],[]⟩ N (q140) ((q32 (Z_5 N) (cb Tryz.func253) (q32 (Z_6 N) (cb Tryz.func254) q82))) Tryz.func222
def S_8(N M:Nat):FnSpec:=⟨tN,(.pair .str .nil),[false],F_8 N M,false⟩
def C_8(N M:Nat):Ctx:=⟨[((102,[]),S_8 N M)],[],[],[],[]⟩
theorem K_8:CB 102:=cb Tryz.func102
theorem Z_8(N:Nat):∀ M,SN0 102 (S_8 N M)
 | 0=>fun w args x r ok _ _ _ h=>nomatch (show none=some r from h)
 | M+1=>snd (C_8 N M) ⟨[],[],[],[]⟩ N (q736 (Z_8 N M) K_8 q140) Tryz.func102
def c2(N M:Nat):Ct0:=⟨(102,[]),S_8 N M,Z_8 N M,K_8⟩
def S_9(N:Nat):VioSpec:=⟨Tl01Source,(.pair tI (.pair .bool .nil)),(.pair TDesign .nil),[true,true,true],fun v x=>F_9 N (v,x),true⟩
theorem Z_9(N:Nat):VioOk Tryz.prog 223 (S_9 N):=sndV ⟨es0 [c2 N N],[1000026],[],[],[(146,.vio (S_0 N))]⟩ ⟨[(0,⟨[.tmp 11 tI,.var 0 [some (.slice (.int .u8)),some tI,some tI],.drow 7 TInstance,.row 8 .str],[12,13,14,15,26,30]++rG 36 70,[],[],[]⟩),(2,⟨[.tmp 14 tI,.var 0 [some (.slice (.int .u8)),some tI,some tI],.var 10 [some .str,some tI,none],.row 11 tI],[],[],[(10,2,tI),(10,2,tI),(10,2,tI),(10,2,tI),(10,2,tI),(10,2,tI)],[(10,2,11)]⟩),(4,⟨[.tmp 16 tI,.var 0 [some (.slice (.int .u8)),some tI,some tI],.drow 7 TInstance],rG 106 17++[129,130]++rG 132 14++rG 123 6++[131],[],[],[]⟩)],[],[],[]⟩ N (ce _) ((q32 (Z_0 N) K_0 q82)) Tryz.func223
def c3:Ct0:=ct ⟨(.pair TDesign .nil),(.pair (.slice Tl05Place) .nil),[true],F_26 N,false⟩ [] ⟨[(0,⟨[.tmp 4 tI,.row 1 Tl05Place],[5,6]++rG 8 35,[],[],[]⟩),(2,⟨[.tmp 6 tI,.row 1 Tl05Place],[],[],[],[]⟩),(4,⟨[.tmp 7 tI,.row 1 Tl05Place],rG 43 25,[],[],[]⟩)],[],[],[]⟩ [] N Tryz.func100
def c4:Ct0:=ct ⟨(.pair TDesign tN),(.pair (.slice tI) .nil),[true],F_27 N,false⟩ [] ⟨[(0,⟨[.tmp 7 tI,.row 1 tI],[8]++rG 11 25,[],[],[]⟩)],[],[],[]⟩ [c3 N] N Tryz.func52
def c5:Ct0:=ct ⟨(.pair tI tN),(.pair TWire .nil),[true,true,true,true],F_28 N,false⟩ [] hnn [] N Tryz.func255
def c6:Ct0:=ct ⟨(.pair (.slice tI) .nil),(.pair (.slice tI) .nil),[true],F_29 N,false⟩ [] hnn [] N Tryz.func221
def S_10(N:Nat):VioSpec:=⟨Tl01Source,tN,(.pair TWire .nil),[true,true,true,true],fun v x=>F_10 N (v,x),true⟩
theorem Z_10(N:Nat):VioOk Tryz.prog 224 (S_10 N):=sndV ⟨es0 [c6 N,c5 N],[],[],[],[(146,.vio (S_0 N))]⟩ ⟨[(0,⟨[.tmp 6 tI,.var 0 [some (.slice (.int .u8)),some tI,some tI],.row 3 tI,.row 4 tI,.row 5 tI,.var 7 [none,none,none,none]],[7]++rG 15 32++[12],[],[],[(7,0,3),(7,1,4),(7,2,5)]⟩),(2,⟨[.tmp 8 tI,.var 0 [some (.slice (.int .u8)),some tI,some tI],.row 6 tI],rG 47 16,[],[],[]⟩)],[],[],[]⟩ N (ce _) ((q32 (Z_0 N) K_0 q82)) Tryz.func224
def S_11(N:Nat):VioSpec:=⟨Tl01Source,(.pair tI (.pair .bool .nil)),(.pair TBlock .nil),[false,true,true,true,true],fun v x=>F_11 N (v,x),true⟩
theorem K_11:CB 182:=cb Tryz.func182
theorem Z_11(N:Nat):VioOk Tryz.prog 182 (S_11 N):=sndV ⟨es0 [c4 N],[1000017],[],[],[(222,.vio (S_7 N)),(223,.vio (S_9 N)),(224,.vio (S_10 N))]⟩ ⟨[(0,⟨[.tmp 10 tI,.var 0 [some (.slice (.int .u8)),some tI,some tI],.drow 8 TWire],rG 17 17,[],[],[]⟩)],[],[],[]⟩ N (ce _) ((q32 (Z_7 N) (cb Tryz.func222) (q32 (Z_9 N) (cb Tryz.func223) (q32 (Z_10 N) (cb Tryz.func224) q82)))) Tryz.func182
def S_12(N:Nat):VioSpec:=⟨Tl01Source,.nil,(.pair TBlock .nil),[false,true,true,true,false],fun v x=>F_12 N (v,x),true⟩
theorem Z_12(N:Nat):VioOk Tryz.prog 181 (S_12 N):=sndV ⟨es0 [c6 N],[],[],[],[(146,.vio (S_0 N)),(182,.vio (S_11 N))]⟩ ⟨[],[(5,[(12,none)])],[],[]⟩ N (ce _) ((q32 (Z_0 N) K_0 (q32 (Z_11 N) K_11 q82))) Tryz.func181
def S_13(N:Nat):VioSpec:=⟨Tl01Source,.nil,(.pair TBlock .nil),[],fun v x=>F_13 N (v,x),false⟩
theorem Z_13(N:Nat):VioOk Tryz.prog 145 (S_13 N):=sndV ⟨[],[],[],[],[(146,.vio (S_0 N)),(181,.vio (S_12 N)),(182,.vio (S_11 N))]⟩ ⟨[],[],[],[]⟩ N (q140) ((q32 (Z_0 N) K_0 (q32 (Z_12 N) (cb Tryz.func181) (q32 (Z_11 N) K_11 q82)))) Tryz.func145
def c7:CtP:=ctA (.pair .str .nil) (.pair .bool .nil) (F_30 N) ⟨[(0,⟨[.tmp 3 tI],rG 4 38,[],[],[]⟩)],[],[],[]⟩ [] N Tryz.func107
def c8:CtP:=ctB (.pair tI (.pair tI tN)) (.pair .bool .nil) (F_31 N) [] N Tryz.func99
def c9:CtP:=ct ⟨(.pair TCell .nil),(.pair tI (.pair .bool .nil)),[false,false],F_32 N,false⟩ [] ⟨[(0,⟨[.tmp 5 tI,.tmp 6 tI],[7,8]++rG 18 67,[],[],[]⟩),(2,⟨[.tmp 8 tI],[],[],[],[]⟩)],[],[],[]⟩ [c8 N,c7 N] N Tryz.func188
def c10:CtP:=ctA (.pair (.slice tI) .nil) (.pair .bool .nil) (F_33 N) ⟨[(0,⟨[.tmp 3 tI],rG 4 28,[],[],[]⟩)],[],[],[]⟩ [c8 N] N Tryz.func286
def c11:CtP:=ctA (.pair TTable .nil) (.pair .bool .nil) (F_34 N) ⟨[(0,⟨[.tmp 3 tI],rG 27 14,[],[],[]⟩)],[],[],[]⟩ [c8 N,c10 N] N Tryz.func277
def c12:CtP:=ct ⟨(.pair TTable .nil),(.pair TSpan tN),[false,false,false],F_35 N,false⟩ [] ⟨[(0,⟨[.tmp 5 tI,.var 2 [some tI,some tI]],rG 19 25,[],[],[]⟩)],[],[],[]⟩ [c11 N] N Tryz.func262
def c13:CtP:=ctA (.pair (.slice TTable) (.pair .bool .nil)) (.pair .bool .nil) (F_36 N) ⟨[(0,⟨[.tmp 5 tI],[6,7]++rG 11 22,[],[],[]⟩)],[],[],[]⟩ [c12 N] N Tryz.func232
def c14:CtP:=ctB (.pair TCell (.pair TArc .nil)) (.pair .bool .nil) (F_37 N) [c8 N,c13 N] N Tryz.func189
def c15:CtP:=ct ⟨(.pair TCell .nil),(.pair (.slice tI) .nil),[true],F_38 N,false⟩ [] ⟨[(0,⟨[.tmp 4 tI,.row 1 tI],rG 6 18,[],[],[]⟩)],[],[],[]⟩ [] N Tryz.func190
def c16:CtP:=ctA (.pair TCell .nil) (.pair .bool .nil) (F_39 N) ⟨[(0,⟨[.tmp 5 tI],[6,7]++rG 41 52,[],[],[]⟩),(2,⟨[.tmp 7 tI],[],[],[],[]⟩),(5,⟨[.tmp 9 tI],rG 99 14,[],[],[]⟩)],[],[],[]⟩ [c8 N,c7 N,c9 N,c14 N,c15 N] N Tryz.func153
def c17:CtP:=ctA (.pair TLibrary .nil) (.pair .bool .nil) (F_40 N) ⟨[(0,⟨[.tmp 3 tI],rG 4 33,[],[],[]⟩),(2,⟨[.tmp 4 tI],[],[],[],[]⟩)],[],[],[]⟩ [c16 N] N Tryz.func96
def c18:CtP:=ctA (.pair TLibrary (.pair TDesign .nil)) (.pair .bool .nil) (F_41 N) ⟨[(0,⟨[.tmp 6 tI],[7,8]++rG 13 50,[],[],[]⟩),(2,⟨[.tmp 8 tI],[],[],[],[]⟩),(4,⟨[.tmp 9 tI],rG 63 27,[],[],[]⟩)],[],[],[]⟩ [c8 N] N Tryz.func97
def c19:CtP:=ctA (.pair (.slice .str) .nil) (.pair .bool .nil) (F_42 N) ⟨[(0,⟨[.tmp 3 tI],rG 4 27,[],[],[]⟩),(2,⟨[.tmp 4 tI],[],[],[],[]⟩)],[],[],[]⟩ [c7 N] N Tryz.func98
def c20:CtP:=ctA (.pair TLibrary (.pair TDesign .nil)) (.pair .bool .nil) (F_43 N) ⟨[(0,⟨[.tmp 6 tI,.row 2 .str],rG 41 17,[],[],[]⟩),(2,⟨[.tmp 8 tI,.row 3 .str],rG 58 17,[],[],[]⟩),(4,⟨[.tmp 10 tI,.row 4 tI],[11]++rG 93 24,[],[],[]⟩),(6,⟨[.tmp 12 tI,.row 4 tI],rG 117 25,[],[],[]⟩),(8,⟨[.tmp 13 tI],rG 142 11,[],[],[]⟩)],[],[],[]⟩ [c17 N,c18 N,c19 N] N Tryz.func50
def c21:CtP:=ctA (.pair TWire tN) (.pair .bool .nil) (F_44 N) ⟨[(0,⟨[.tmp 6 tI],rG 38 54,[],[],[]⟩),(2,⟨[.tmp 7 tI],rG 92 16,[],[],[]⟩)],[],[],[]⟩ [c8 N] N Tryz.func51
def c22:CtP:=ctA (.pair TBlock .nil) (.pair .bool .nil) (F_45 N) ⟨[(0,⟨[.tmp 3 tI],rG 20 19,[],[],[]⟩)],[],[],[]⟩ [c20 N,c21 N,c4 N] N Tryz.func21
def c23:CtP:=ctB (.pair TBlock .nil) tN (F_46 N) [c3 N] N Tryz.func154
def c24:CtP:=ct ⟨(.pair TLibrary (.pair TDesign tN)),(.pair Tl05Place (.pair .bool .nil)),(rF 5),F_47 N,false⟩ [] hnn [c20 N,c8 N,c3 N] N Tryz.func155
def c25:CtP:=ct ⟨(.pair TBlock tN),(.pair TCell .nil),(rF 7),F_48 N,false⟩ [] hnn [] N Tryz.func157
def c26:CtP:=ctA (.pair TCell tN) (.pair .bool .nil) (F_49 N) ⟨[(0,⟨[.tmp 5 tI],rG 6 24,[],[],[]⟩)],[],[],[]⟩ [] N Tryz.func156
def c27:CtP:=ct ⟨(.pair TBlock .nil),(.pair (.slice tI) .nil),[true],F_50 N,false⟩ [] ⟨[(0,⟨[.tmp 4 tI,.row 1 tI],rG 5 45,[],[],[]⟩)],[],[],[]⟩ [c23 N,c24 N,c26 N,c25 N] N Tryz.func104
def c28:CtP:=ctA (.pair (.slice tI) tN) tN (F_51 N) ⟨[(0,⟨[.tmp 5 tI],rG 6 12,[],[],[]⟩)],[],[],[]⟩ [] N Tryz.func103
def c29:CtP:=ctB tN (.pair .bool .nil) (F_52 N) [] N Tryz.func105
def c30:CtP:=ctB tN (.pair .bool .nil) (F_53 N) [c8 N] N Tryz.func106
def c31:CtP:=ctB (.pair TBlock (.pair TWaiver .nil)) (.pair .bool .nil) (F_54 N) [c8 N,c28 N,c27 N,c29 N,c30 N,c7 N] N Tryz.func55
def c32:CtP:=ctA (.pair TBlock (.pair (.slice TWaiver) .nil)) (.pair .bool .nil) (F_55 N) ⟨[(0,⟨[.tmp 5 tI],rG 6 28,[],[],[]⟩),(2,⟨[.tmp 6 tI],[],[],[],[]⟩)],[],[],[]⟩ [c31 N] N Tryz.func24
def S_14(N:Nat):FnSpec:=⟨.pair (.slice (.int .u8)) .nil,(.pair TBlock (.pair (.slice TViolation) (.pair (.slice TWaiver) tN))),[false,false,false,false,false,true,true,false],F_14 N,false⟩
theorem KI_144:CB 144:=cb Tryz.func144
def I_15:InF:=⟨144,Tryz.f144,⟨[(0,⟨[.tmp 4 tI,.var 2 [some (.slice (.int .u8)),some tI,some tI]],rG 8 25,[],[],[]⟩)],[],[],[]⟩,[],false⟩
theorem Z_14(N:Nat):SN 88 (S_14 N):=sndX ⟨esP [c22 N,c32 N,c27 N],[],[I_15],[],[(145,.vio (S_13 N)),(146,.vio (S_0 N))]⟩ ⟨[(0,⟨[.tmp 12 tI,.var 2 [some (.slice (.int .u8)),some tI,some tI],.row 5 TViolation],[13,26]++rG 31 25,[],[],[]⟩),(2,⟨[.tmp 13 tI,.var 2 [some (.slice (.int .u8)),some tI,some tI],.row 5 TViolation],[],[],[],[]⟩),(4,⟨[.tmp 14 tI,.var 2 [some (.slice (.int .u8)),some tI,some tI],.row 6 TWaiver],[15]++rG 58 40++[27,98,99,100,101],[],[],[]⟩)],[],[(3,TViolation),(4,TWaiver)],[]⟩ N (ce _) ((q32 (Z_13 N) (cb Tryz.func145) (q32 (Z_0 N) K_0 q82))) Tryz.func88 (hi:=(q611 Tryz.func144 KI_144 q705))
def c33:CtP:=⟨(88,[]),S_14 N,Z_14 N,(cb Tryz.func88)⟩
def c34:CtP:=ct ⟨(.pair (.slice (.int .u8)) .nil),(.pair TBlock (.pair (.slice TWaiver) .nil)),[false,false,false,false,false,true],F_56 N,false⟩ [] hnn [c33 N] N Tryz.func43
def c35:CtP:=ct ⟨(.pair (.slice (.int .u8)) .nil),(.pair TBlock (.pair (.slice TWaiver) .nil)),[false,false,false,false,false,true],F_57 N,false⟩ [] hnn [c34 N] N Tryz.func15
def c36:CtP:=ctB (.pair tI (.pair tI tN)) (.pair .bool .nil) (F_58 N) [] N Tryz.func119
def c37:CtP:=⟨(70,[]),q121 N,q241 N,q236⟩
def c38:CtP:=⟨(177,[]),q225 N,q410 N,q414⟩
def c39:CtP:=ctB (.pair .str .nil) (.pair .bool .nil) (F_59 N) [c37 N,c36 N,c38 N] N Tryz.func136
def c40:CtP:=ctB (.pair (.slice TPin) .nil) tN (F_60 N) [] N Tryz.func234
def c41:CtP:=ctA (.pair (.slice .str) (.pair .str .nil)) tN (F_61 N) ⟨[(0,⟨[.tmp 8 tI],[5]++rG 9 8++[18],[],[],[]⟩)],[],[],[]⟩ [] N Tryz.func74
def c42:CtP:=ctB (.pair (.slice .str) (.pair .str .nil)) (.pair .bool .nil) (F_62 N) [c41 N] N Tryz.func196
def c43:CtP:=ctA (.pair (.slice .str) .nil) (.pair .bool .nil) (F_63 N) ⟨[(0,⟨[.tmp 7 tI],[3,4]++rG 8 15,[],[],[]⟩)],[],[],[]⟩ [c39 N,c42 N] N Tryz.func161
def c44:CtP:=ctA (.pair (.slice TPin) .nil) (.pair .bool .nil) (F_64 N) ⟨[(0,⟨[.tmp 8 tI,.row 0 .str],[4,5]++rG 9 26++[44]++rG 35 9,[(3,.str),(3,.str)],[],[]⟩)],[],[],[]⟩ [c36 N,c43 N,c40 N] N Tryz.func193
def c45:CtP:=ctB tN (.pair .bool .nil) (F_65 N) [] N Tryz.func211
def c46:CtP:=ctB (.pair (.slice tI) .nil) tN (F_66 N) [] N Tryz.func66
def c47:CtP:=ctB (.pair tI (.pair (.ptr tI) (.pair (.ptr tI) .nil))) (.pair .bool .nil) (F_67 N) [c36 N] N Tryz.func167
def c48:CtP:=ct ⟨(.pair (.slice tI) (.pair (.clo 167 (.pair (.ptr tI) (.pair (.ptr tI) .nil))) .nil)),tN,[false],F_68 N,false⟩ [167] ⟨[(0,⟨[.tmp 8 tI],[5]++rG 9 8++[18],[],[],[]⟩)],[],[],[]⟩ [c47 N] N Tryz.func197
def c49:CtP:=ct ⟨(.pair (.slice tI) (.pair (.clo 167 (.pair (.ptr tI) (.pair (.ptr tI) .nil))) .nil)),(.pair .bool .nil),[false],F_69 N,false⟩ [167] hnn [c48 N] N Tryz.func163
def c50:CtP:=ctA (.pair (.slice tI) (.pair tI tN)) (.pair .bool .nil) (F_70 N) ⟨[],[(1,[(4,some tI),(5,some tI)])],[],[]⟩ [c49 N] N Tryz.func121
def c51:CtP:=ctA (.pair (.slice tI) .nil) (.pair .bool .nil) (F_71 N) ⟨[(0,⟨[.tmp 3 tI],rG 4 16,[],[],[]⟩)],[],[],[]⟩ [] N Tryz.func290
def c52:CtP:=ctB (.pair (.slice tI) .nil) (.pair .bool .nil) (F_72 N) [c46 N,c36 N,c50 N,c51 N] N Tryz.func288
def c53:CtP:=ctB (.pair TTable .nil) (.pair .bool .nil) (F_73 N) [c50 N,c52 N] N Tryz.func280
def c54:CtP:=ctA (.pair (.slice tI) .nil) tN (F_74 N) ⟨[(0,⟨[.tmp 3 tI,.tmp 4 tI],rG 12 12,[],[],[]⟩)],[],[],[]⟩ [] N Tryz.func281
def c55:CtP:=ctB (.pair TTable (.pair (.ptr .bool) .nil)) (.pair .bool .nil) (F_75 N) [c53 N,c54 N] N Tryz.func279
def c56:CtP:=ct ⟨(.pair (.slice TTable) (.pair (.clo 279 (.pair (.ptr .bool) .nil)) .nil)),tN,[false],F_76 N,false⟩ [279] ⟨[(0,⟨[.tmp 8 tI],[5]++rG 9 8++[18],[],[],[]⟩)],[],[],[]⟩ [c55 N] N Tryz.func287
def c57:CtP:=ct ⟨(.pair (.slice TTable) (.pair (.clo 279 (.pair (.ptr .bool) .nil)) .nil)),(.pair .bool .nil),[false],F_77 N,false⟩ [279] hnn [c56 N] N Tryz.func278
def c58:CtP:=ctA (.pair (.slice TTable) (.pair .bool .nil)) (.pair .bool .nil) (F_78 N) ⟨[],[(1,[(3,some .bool)])],[],[]⟩ [c57 N] N Tryz.func264
def c59:CtP:=ctB (.pair TPin .nil) (.pair .bool .nil) (F_79 N) [] N Tryz.func283
def c60:CtP:=ct ⟨(.pair (.slice TPin) (.pair (.clo 283 .nil) .nil)),tN,[false],F_80 N,false⟩ [283] ⟨[(0,⟨[.tmp 8 tI],[5]++rG 9 8++[18],[],[],[]⟩)],[],[],[]⟩ [c59 N] N Tryz.func282
def c61:CtP:=ctB (.pair TCell .nil) tN (F_81 N) [c60 N] N Tryz.func265
def c62:CtP:=ctB (.pair TCell .nil) tN (F_82 N) [c40 N] N Tryz.func237
def c63:CtP:=ctB (.pair TCell tN) (.pair .bool .nil) (F_83 N) [c36 N,c62 N] N Tryz.func266
def c64:CtP:=ctB (.pair TCell (.pair TArc .nil)) (.pair .bool .nil) (F_84 N) [c36 N,c45 N,c62 N,c58 N,c61 N,c63 N] N Tryz.func235
def c65:CtP:=ctB (.pair TArc (.pair (.ptr TArc) .nil)) (.pair .bool .nil) (F_85 N) [] N Tryz.func236
def c66:CtP:=ct ⟨(.pair (.slice TArc) (.pair (.clo 236 (.pair (.ptr TArc) .nil)) .nil)),tN,[false],F_86 N,false⟩ [236] ⟨[(0,⟨[.tmp 8 tI],[5]++rG 9 8++[18],[],[],[]⟩)],[],[],[]⟩ [c65 N] N Tryz.func248
def c67:CtP:=ct ⟨(.pair (.slice TArc) (.pair (.clo 236 (.pair (.ptr TArc) .nil)) .nil)),(.pair .bool .nil),[false],F_87 N,false⟩ [236] hnn [c66 N] N Tryz.func208
def c68:CtP:=ctA (.pair TCell .nil) (.pair .bool .nil) (F_88 N) ⟨[(0,⟨[.tmp 8 tI],[3,4]++rG 9 17,[],[],[]⟩)],[(4,[(4,some TArc)])],[],[]⟩ [c67 N,c64 N] N Tryz.func194
def c69:CtP:=ctB (.pair TArc (.pair (.ptr tI) .nil)) (.pair .bool .nil) (F_89 N) [] N Tryz.func267
def c70:CtP:=ct ⟨(.pair (.slice TArc) (.pair (.clo 267 (.pair (.ptr tI) .nil)) .nil)),tN,[false],F_90 N,false⟩ [267] ⟨[(0,⟨[.tmp 8 tI],[5]++rG 9 8++[18],[],[],[]⟩)],[],[],[]⟩ [c69 N] N Tryz.func248
def c71:CtP:=ct ⟨(.pair (.slice TArc) (.pair (.clo 267 (.pair (.ptr tI) .nil)) .nil)),(.pair .bool .nil),[false],F_91 N,false⟩ [267] hnn [c70 N] N Tryz.func208
def c72:CtP:=ctA (.pair TCell tN) (.pair .bool .nil) (F_92 N) ⟨[],[(1,[(3,some tI)])],[],[]⟩ [c71 N] N Tryz.func238
def c73:CtP:=ctA (.pair TCell .nil) (.pair .bool .nil) (F_93 N) ⟨[(0,⟨[.tmp 3 tI,.tmp 9 tI],[5]++rG 10 8,[],[],[]⟩)],[],[],[]⟩ [c50 N,c62 N,c72 N] N Tryz.func195
def c74:CtP:=ctB (.pair TCell .nil) (.pair .bool .nil) (F_94 N) [c36 N,c39 N,c44 N,c68 N,c73 N] N Tryz.func160
def c75:CtP:=ctA (.pair TLibrary .nil) (.pair .bool .nil) (F_95 N) ⟨[(0,⟨[.tmp 9 tI,.row 1 .str],[5]++rG 10 12,[(3,.str)],[],[]⟩)],[],[],[]⟩ [c74 N,c43 N] N Tryz.func113
def c76:CtP:=ctA (.pair TDesign .nil) (.pair .bool .nil) (F_96 N) ⟨[(0,⟨[.tmp 12 tI,.row 1 .str],[6]++rG 13 9,[(3,.str)],[],[]⟩),(2,⟨[.tmp 25 tI,.row 2 .str],[8]++rG 26 9,[(4,.str)],[],[]⟩)],[],[],[]⟩ [c43 N] N Tryz.func114
def c77:CtP:=ctB (.pair (.slice TCell) .nil) tN (F_97 N) [] N Tryz.func162
def c78:CtP:=ctB (.pair (.slice .str) .nil) tN (F_98 N) [] N Tryz.func165
def c79:CtP:=ctB (.pair TDesign tN) (.pair .bool .nil) (F_99 N) [c36 N,c78 N] N Tryz.func116
def c80:CtP:=ctB (.pair tI (.pair (.ptr TDesign) .nil)) (.pair .bool .nil) (F_100 N) [c79 N] N Tryz.func164
def c81:CtP:=ct ⟨(.pair (.slice tI) (.pair (.clo 164 (.pair (.ptr TDesign) .nil)) .nil)),tN,[false],F_101 N,false⟩ [164] ⟨[(0,⟨[.tmp 8 tI],[5]++rG 9 8++[18],[],[],[]⟩)],[],[],[]⟩ [c80 N] N Tryz.func197
def c82:CtP:=ct ⟨(.pair (.slice tI) (.pair (.clo 164 (.pair (.ptr TDesign) .nil)) .nil)),(.pair .bool .nil),[false],F_102 N,false⟩ [164] hnn [c81 N] N Tryz.func163
def c83:CtP:=ctA (.pair TDesign (.pair TLibrary (.pair TInstance .nil))) (.pair .bool .nil) (F_103 N) ⟨[],[(1,[(3,some TDesign)])],[],[]⟩ [c36 N,c77 N,c82 N] N Tryz.func115
def c84:CtP:=ctB tN (.pair .bool .nil) (F_104 N) [] N Tryz.func118
def c85:CtP:=ct ⟨(.pair (.slice tI) (.pair (.clo 118 .nil) .nil)),tN,[false],F_105 N,false⟩ [118] ⟨[(0,⟨[.tmp 8 tI],[5]++rG 9 8++[18],[],[],[]⟩)],[],[],[]⟩ [c84 N] N Tryz.func166
def c86:CtP:=ct ⟨(.pair (.slice tI) (.pair (.clo 118 .nil) .nil)),(.pair .bool .nil),[false],F_106 N,false⟩ [118] hnn [c85 N] N Tryz.func117
def c87:CtP:=ctA (.pair TLibrary (.pair TDesign .nil)) (.pair .bool .nil) (F_107 N) ⟨[(0,⟨[.tmp 25 tI,.row 2 tI],[7]++rG 26 22,[],[],[]⟩),(2,⟨[.tmp 51 tI,.row 2 tI],[9]++rG 52 29,[],[],[]⟩)],[],[],[]⟩ [c75 N,c76 N,c83 N,c79 N,c86 N] N Tryz.func62
def c88:CtP:=ct ⟨(.pair TDesign .nil),(.pair (.slice Tl05Place) .nil),[true],F_108 N,false⟩ [] ⟨[(0,⟨[.tmp 13 tI,.row 1 Tl05Place],[4,5,6,7]++rG 14 27,[(3,Tl05Place)],[],[]⟩),(2,⟨[.tmp 21 tI,.row 1 Tl05Place],[],[],[],[]⟩),(4,⟨[.tmp 44 tI,.row 1 Tl05Place],[8,9]++rG 45 15,[],[],[]⟩)],[],[],[]⟩ [] N Tryz.func63
def c89:CtP:=ctA (.pair TWire .nil) (.pair .bool .nil) (F_109 N) ⟨[(0,⟨[.tmp 8 tI],[3,4]++rG 9 29,[],[],[]⟩)],[],[],[]⟩ [c36 N] N Tryz.func120
def c90:CtP:=ctB (.pair TWire tN) (.pair .bool .nil) (F_110 N) [c46 N,c36 N,c89 N,c50 N] N Tryz.func64
def c91:CtP:=ctA (.pair TBlock .nil) (.pair .bool .nil) (F_111 N) ⟨[(0,⟨[.tmp 32 tI,.row 1 tI],[5]++rG 33 14,[],[],[]⟩),(2,⟨[.tmp 50 tI],[6,7]++rG 51 12,[],[],[]⟩)],[],[],[]⟩ [c87 N,c88 N,c90 N] N Tryz.func28
def c92:CtP:=ct ⟨(.pair TArc .nil),(.pair (.slice TSpan) .nil),[true],F_112 N,false⟩ [] ⟨[],[],[(2,TSpan)],[]⟩ [] N Tryz.func122
def c93:CtP:=ct ⟨(.pair TBlock (.pair TInstance tN)),(.pair (.slice TLink) .nil),[true],F_113 N,false⟩ [] ⟨[(0,⟨[.tmp 21 tI,.row 2 TLink],[8,9,11]++rG 22 34,[(7,TLink)],[],[]⟩),(2,⟨[.tmp 29 tI,.row 2 TLink],[],[],[],[]⟩)],[],[],[]⟩ [c92 N] N Tryz.func65
def S_16(N:Nat):FnSpec:=⟨.pair (.slice tI) .nil,(.pair (.slice tI) .nil),[true],F_16 N,false⟩
def H_16:Hints:=⟨[],[],[(2,tI)],[]⟩
def C_16(N:Nat):Ctx:=⟨[],[],[],[],[]⟩
theorem E_16(N:Nat)(xs:List (Ty.den tI)):pevFnW Tryz.prog (C_16 N) N H_16 (S_16 N) Tryz.f123 [.one (.sln tI xs)]=F_16 N (xs,()):=by kernel_rfl
theorem E0_16(N:Nat):pevFnW Tryz.prog (C_16 N) N H_16 (S_16 N) Tryz.f123 [.one (.slz tI)]=F_16 N ([],()):=by kernel_rfl
theorem Z_16(N:Nat):Sound Tryz.prog PRE 123 (S_16 N):=q338 (C:=C_16 N) (H:=H_16) (N:=N) (e:=tI) (rs:=(.pair (.slice tI) .nil)) (own:=[true]) (F:=F_16 N) (q372 q193 (by kernel_rfl) q140) Tryz.func123 (fun xs r h=>(E_16 N xs).trans h) (fun r h=>(E0_16 N).trans h)
def c94:CtP:=⟨(123,[]),S_16 N,Z_16 N,(cb Tryz.func123)⟩
def c95:CtP:=ct ⟨(.pair TDesign tN),(.pair (.slice tI) .nil),[true],F_114 N,false⟩ [] ⟨[(0,⟨[.tmp 11 tI,.row 2 tI],[6,7]++rG 12 18,[(5,tI)],[],[]⟩)],[],[],[]⟩ [c88 N] N Tryz.func124
def c96:CtP:=ctB (.pair TDesign (.pair TLibrary (.pair Tl05Place .nil))) tN (F_115 N) [] N Tryz.func125
def c97:CtP:=ct ⟨(.pair TBlock tN),(.pair (.slice tI) .nil),[true],F_116 N,false⟩ [] ⟨[(0,⟨[.tmp 27 tI,.row 2 tI],[8,9]++rG 28 24,[],[],[]⟩),(2,⟨[.tmp 10 tI,.row 2 tI],rG 55 18,[],[],[]⟩)],[],[],[]⟩ [c88 N,c94 N,c95 N,c96 N] N Tryz.func67
end
end Go.Proofs.YtefbaonpbemejabGreatDoor
