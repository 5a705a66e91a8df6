/- The functions' contracts. Printed by my dec.py. No condition of its own. -/
import Derived.Test.YtcmhpcoiomdekaaGreatDoorPgL
import Derived.Test.YtcmhpcoiomdekaaGreatDoorPvF1
import Derived.Test.YtcmhpcoiomdekaaGreatDoorProg
import Derived.Test.YtcmhpcoiomdekaaGreatDoorPgG
namespace Go.Proofs.YtcmhpcoiomdekaaGreatDoor
abbrev tI:Ty:=.int .i64
abbrev tN:Ty:=.pair tI .nil
abbrev rG:=List.range'
open Go.RowKit
set_option maxRecDepth 100000
set_option linter.unusedVariables false
noncomputable section
abbrev CB(f:FuncId):Prop:=q17 Tryz.prog f
theorem cb{f : FuncId}{fn : Func}(h : Tryz.prog.funcs[f]? = some fn)(h1 : fn.body.isNone = false := by kernel_rfl)(h2 : (fn.name == "runtime.NumGoroutine") = false := by kernel_rfl) : CB f := ⟨_, h, h1, h2⟩
abbrev SN(f:FuncId)(S:FnSpec):Prop:=Sound Tryz.prog PRE f S
abbrev PRE0:World->Prop:=fun _=>True
theorem snd{Pre:World->Prop}(C:Ctx)(H:Hints)(N:Nat){f:FuncId}{fn:Func}{S:FnSpec}(hc:∀ p∈C.fns,Sound Tryz.prog Pre p.1.1 p.2/\q17 Tryz.prog p.1.1)(hf:Tryz.prog.funcs[f]?=some fn)(hm:Tryz.prog.follows .mixedOrders=true:=by kernel_rfl)(hp:q75 S.ps=true:=by kernel_rfl)
 (h:∀ x,pevFn Tryz.prog C N H S fn x=S.fn x:=by intro x; kernel_rfl) (hi:∀ x∈C.inl,Tryz.prog.funcs[x.fid]?=some x.fn/\q17 Tryz.prog x.fid:=by intro x hx; cases hx) (ht:∀ w,Pre w->TabsAt C.tabs w:=by exact fun w _=>q244 w) (hio:∀ p∈C.io,HookOk Tryz.prog p.1 p.2/\q17 Tryz.prog p.1:=by intro p hp; cases hp) (hx:∀ w w',Pre w->Ext w w'->Pre w':=by first | exact q342 | exact fun _ _ _ _=>trivial):Sound Tryz.prog Pre f S:=
 q578 (C:=C) (H:=H) (N:=N) (q536 hx hm hc hi ht hio) hf hp (fun x r k=>(h x).trans k)
theorem sndX{Pre:World->Prop}(C:Ctx)(H:Hints)(N:Nat){f:FuncId}{fn:Func}{S:FnSpec}(hc:∀ p∈C.fns,Sound Tryz.prog Pre p.1.1 p.2/\q17 Tryz.prog p.1.1)(hio:∀ p∈C.io,HookOk Tryz.prog p.1 p.2/\q17 Tryz.prog p.1)(hf:Tryz.prog.funcs[f]?=some fn)(hm:Tryz.prog.follows .mixedOrders=true:=by kernel_rfl)(hp:q75 S.ps=true:=by kernel_rfl)
 (h:∀ x,pevFnX Tryz.prog C N H S fn x=S.fn x:=by intro x; kernel_rfl) (hi:∀ x∈C.inl,Tryz.prog.funcs[x.fid]?=some x.fn/\q17 Tryz.prog x.fid:=by intro x hx; cases hx) (ht:∀ w,Pre w->TabsAt C.tabs w:=by exact fun w _=>q244 w) (hx:∀ w w',Pre w->Ext w w'->Pre w':=by first | exact q342 | exact fun _ _ _ _=>trivial):Sound Tryz.prog Pre f S:=
 q554 (C:=C) (H:=H) (N:=N) (q536 hx hm hc hi ht hio) hf hp (fun x r k=>(h x).trans k)
theorem sndV(C:Ctx)(H:Hints)(N:Nat){f:FuncId}{fn:Func}{S:VioSpec}(hc:∀ p∈C.fns,Sound Tryz.prog PRE0 p.1.1 p.2/\q17 Tryz.prog p.1.1)(hio:∀ p∈C.io,HookOk Tryz.prog p.1 p.2/\q17 Tryz.prog p.1)(hf:Tryz.prog.funcs[f]?=some fn)(hm:Tryz.prog.follows .mixedOrders=true:=by kernel_rfl)
 (h:∀ v x,pevFnV Tryz.prog C N H S fn v x=S.fn v x:=by intro v x; kernel_rfl) (hi:∀ x∈C.inl,Tryz.prog.funcs[x.fid]?=some x.fn/\q17 Tryz.prog x.fid:=by intro x hx; cases hx) (ht:∀ w,PRE0 w->TabsAt C.tabs w:=by exact fun w _=>q244 w) (hT:∀ w,PRE0 w:=by exact fun _=>trivial):VioOk Tryz.prog f S:=
 q768 (C:=C) (H:=H) (N:=N) (q536 (fun _ _ _ _=>trivial) hm hc hi ht hio) hT hf (fun v x r k=>(h v x).trans k)
abbrev SN0(f:FuncId)(S:FnSpec):Prop:=Sound Tryz.prog PRE0 f S
abbrev rF(n:Nat):List Bool:=List.replicate n false
structure Ct (Pre:World->Prop) where
 k:FuncId×List FuncId
 S:FnSpec
 z:Sound Tryz.prog Pre k.1 S
 c:CB k.1
abbrev Ct0:=Ct PRE0
abbrev CtP:=Ct PRE
def up(c:Ct0):CtP:=⟨c.k,c.S,fun w a x r ok _=>c.z w a x r ok trivial,c.c⟩
instance:Coe Ct0 CtP:=⟨up⟩
theorem wk{f:FuncId}{S:FnSpec}(h:SN0 f S):SN f S:=fun w a x r ok _=>h w a x r ok trivial
def es{Pre:World->Prop}(l:List (Ct Pre)):CtxL:=l.map fun c=>(c.k,c.S)
abbrev es0(l:List Ct0):CtxL:=es l
abbrev esP(l:List CtP):CtxL:=es l
theorem ce{Pre:World->Prop}(l:List (Ct Pre)):∀ p∈es l,Sound Tryz.prog Pre p.1.1 p.2/\q17 Tryz.prog p.1.1:=by intro p hp;obtain ⟨c,_,rfl⟩:=aO.1 hp;exact ⟨c.z,c.c⟩
def ct{Pre:World->Prop}(S:FnSpec)(g:List FuncId)(H:Hints)(l:List (Ct Pre))(N:Nat){f:FuncId}{fn:Func}(hf:Tryz.prog.funcs[f]?=some fn)(hp:q75 S.ps=true:=by kernel_rfl)
 (h : ∀ x, pevFn Tryz.prog ⟨es l, [], [], [], []⟩ N H S fn x = S.fn x := by intro x; kernel_rfl) (h1 : fn.body.isNone = false := by kernel_rfl) (h2 : (fn.name == "runtime.NumGoroutine") = false := by kernel_rfl) (hx : ∀ w w', Pre w → Ext w w' → Pre w' := by first | exact q342 | exact fun _ _ _ _ => trivial) : Ct Pre :=
 ⟨(f,g),S,snd ⟨es l,[],[],[],[]⟩ H N (ce l) hf (hp:=hp) (h:=h) (hx:=hx),_,hf,h1,h2⟩
def ctA{Pre:World->Prop}(ps rs:Ty)(F:ps.den->Option rs.den)(H:Hints)(l:List (Ct Pre))(N:Nat){f:FuncId}{fn:Func}(hf:Tryz.prog.funcs[f]?=some fn)(hp:q75 ps=true:=by kernel_rfl)
 (h : ∀ x, pevFn Tryz.prog ⟨es l, [], [], [], []⟩ N H ⟨ps, rs, [false], F, false⟩ fn x = F x := by intro x; kernel_rfl) (h1 : fn.body.isNone = false := by kernel_rfl) (h2 : (fn.name == "runtime.NumGoroutine") = false := by kernel_rfl) (hx : ∀ w w', Pre w → Ext w w' → Pre w' := by first | exact q342 | exact fun _ _ _ _ => trivial) : Ct Pre :=
 ct ⟨ps,rs,[false],F,false⟩ [] H l N hf hp h h1 h2 hx
abbrev hnn:Hints:=⟨[],[],[],[]⟩
def ctB{Pre:World->Prop}(ps rs:Ty)(F:ps.den->Option rs.den)(l:List (Ct Pre))(N:Nat){f:FuncId}{fn:Func}(hf:Tryz.prog.funcs[f]?=some fn)(hp:q75 ps=true:=by kernel_rfl)
 (h : ∀ x, pevFn Tryz.prog ⟨es l, [], [], [], []⟩ N hnn ⟨ps, rs, [false], F, false⟩ fn x = F x := by intro x; kernel_rfl) (h1 : fn.body.isNone = false := by kernel_rfl) (h2 : (fn.name == "runtime.NumGoroutine") = false := by kernel_rfl) (hx : ∀ w w', Pre w → Ext w w' → Pre w' := by first | exact q342 | exact fun _ _ _ _ => trivial) : Ct Pre :=
 ctA ps rs F hnn l N hf hp h h1 h2 hx
variable (N:Nat)
def c0:CtP:=ctB (.pair (.slice (.int .u8)) .nil) (.pair .bool .nil) (F_41 N) [] N Tryz.func7
def S_0(N:Nat):VioSpec:=⟨Tl01Source,tN,tN,[],fun v x=>F_0 N (v,x),false⟩
theorem K_0:CB 40:=cb Tryz.func40
theorem Z_0(N:Nat):VioOk Tryz.prog 40 (S_0 N):=sndV ⟨[],[],[],[],[]⟩ ⟨[],[],[],[]⟩ N (q105) (q60) Tryz.func40
def c1:Ct0:=ctA (.pair TCell tN) tN (F_42 N) ⟨[(0,⟨[.tmp 8 tI,.tmp 5 .bool,.tmp 6 .bool],rG 12 43,[],[],[]⟩)],[],[],[]⟩ [] N Tryz.func295
def S_1(N:Nat):VioSpec:=⟨Tl01Source,tN,(.pair (.slice tI) .nil),[],fun v x=>F_1 N (v,x),false⟩
theorem Z_1(N:Nat):VioOk Tryz.prog 360 (S_1 N):=sndV ⟨[],[],[],[],[(40,.vio (S_0 N))]⟩ ⟨[(0,⟨[.tmp 6 tI,.tmp 7 tI,.var 0 [some (.slice (.int .u8)),some tI,some tI],.row 2 tI],[8]++rG 15 14,[],[],[]⟩)],[],[],[]⟩ N (q105) ((q21 (Z_0 N) K_0 q60)) Tryz.func360
def S_2(N:Nat):VioSpec:=⟨Tl01Source,tN,(.pair TTable .nil),[],fun v x=>F_2 N (v,x),false⟩
theorem Z_2(N:Nat):VioOk Tryz.prog 344 (S_2 N):=sndV ⟨[],[],[],[],[(40,.vio (S_0 N)),(360,.vio (S_1 N))]⟩ ⟨[(0,⟨[.tmp 9 tI,.var 0 [some (.slice (.int .u8)),some tI,some tI],.row 3 tI],[10,15]++rG 18 44,[],[],[]⟩)],[],[],[]⟩ N (q105) ((q21 (Z_0 N) K_0 (q21 (Z_1 N) (cb Tryz.func360) q60))) Tryz.func344
def S_3(N:Nat):VioSpec:=⟨Tl01Source,tN,(.pair (.slice TTable) .nil),[],fun v x=>F_3 N (v,x),false⟩
theorem Z_3(N:Nat):VioOk Tryz.prog 323 (S_3 N):=sndV ⟨[],[],[],[],[(344,.vio (S_2 N))]⟩ ⟨[],[],[],[]⟩ N (q105) ((q21 (Z_2 N) (cb Tryz.func344) q60)) Tryz.func323
def S_4(N:Nat):VioSpec:=⟨Tl01Source,(.pair tI (.pair tI (.pair tI tN))),(.pair TArc .nil),[],fun v x=>F_4 N (v,x),false⟩
theorem K_4:CB 296:=cb Tryz.func296
theorem Z_4(N:Nat):VioOk Tryz.prog 296 (S_4 N):=sndV ⟨[],[],[],[],[(40,.vio (S_0 N)),(323,.vio (S_3 N))]⟩ ⟨[],[],[],[]⟩ N (q105) ((q21 (Z_0 N) K_0 (q21 (Z_3 N) (cb Tryz.func323) q60))) Tryz.func296
def S_5(N:Nat):VioSpec:=⟨Tl01Source,(.pair .str (.pair (.slice tI) .nil)),(.pair TCell .nil),[],fun v x=>F_5 N (v,x),false⟩
theorem Z_5(N:Nat):VioOk Tryz.prog 241 (S_5 N):=sndV ⟨es0 [c1 N],[],[],[],[(40,.vio (S_0 N)),(296,.vio (S_4 N))]⟩ ⟨[(0,⟨[.tmp 10 tI,.var 0 [some (.slice (.int .u8)),some tI,some tI],.row 5 TPin],rG 23 19,[],[],[]⟩),(2,⟨[.tmp 13 tI,.var 0 [some (.slice (.int .u8)),some tI,some tI],.row 7 TArc],[14]++rG 49 19,[],[],[]⟩)],[],[],[]⟩ N (ce _) ((q21 (Z_0 N) K_0 (q21 (Z_4 N) K_4 q60))) Tryz.func241
def S_6(N:Nat):VioSpec:=⟨Tl01Source,(.pair .str (.pair tI tN)),(.pair TCell .nil),[],fun v x=>F_6 N (v,x),false⟩
theorem Z_6(N:Nat):VioOk Tryz.prog 242 (S_6 N):=sndV ⟨[],[],[],[],[(40,.vio (S_0 N)),(296,.vio (S_4 N))]⟩ ⟨[],[],[],[]⟩ N (q105) ((q21 (Z_0 N) K_0 (q21 (Z_4 N) K_4 q60))) Tryz.func242
def S_7(N:Nat):VioSpec:=⟨Tl01Source,.nil,(.pair TLibrary .nil),[],fun v x=>F_7 N (v,x),false⟩
theorem Z_7(N:Nat):VioOk Tryz.prog 177 (S_7 N):=sndV ⟨[],[14,17,20,23,26],[],[],[(241,.vio (S_5 N)),(242,.vio (S_6 N))]⟩ ⟨[],[],[],[]⟩ N (q105) ((q21 (Z_5 N) (cb Tryz.func241) (q21 (Z_6 N) (cb Tryz.func242) q60))) Tryz.func177
def S_8(N M:Nat):FnSpec:=⟨tN,(.pair .str .nil),[false],F_8 N M,false⟩
def C_8(N M:Nat):Ctx:=⟨[((93,[]),S_8 N M)],[],[],[],[]⟩
theorem K_8:CB 93:=cb Tryz.func93
theorem Z_8(N:Nat):∀ M,SN0 93 (S_8 N M)
 | 0=>fun w args x r ok _ _ _ h=>nomatch (show none=some r from h)
 | M+1=>snd (C_8 N M) ⟨[],[],[],[]⟩ N (q413 (Z_8 N M) K_8 q105) Tryz.func93
def c2(N M:Nat):Ct0:=⟨(93,[]),S_8 N M,Z_8 N M,K_8⟩
def S_9(N:Nat):VioSpec:=⟨Tl01Source,(.pair tI (.pair .bool .nil)),(.pair TDesign .nil),[true,true,true],fun v x=>F_9 N (v,x),true⟩
theorem Z_9(N:Nat):VioOk Tryz.prog 178 (S_9 N):=sndV ⟨es0 [c2 N N],[1000026],[],[],[(40,.vio (S_0 N))]⟩ ⟨[(0,⟨[.tmp 11 tI,.var 0 [some (.slice (.int .u8)),some tI,some tI],.drow 7 TInstance,.row 8 .str],[12,13,14,15,26,30]++rG 36 70,[],[],[]⟩),(2,⟨[.tmp 14 tI,.var 0 [some (.slice (.int .u8)),some tI,some tI],.var 10 [some .str,some tI,none],.row 11 tI],[],[],[(10,2,tI),(10,2,tI),(10,2,tI),(10,2,tI),(10,2,tI),(10,2,tI)],[(10,2,11)]⟩),(4,⟨[.tmp 16 tI,.var 0 [some (.slice (.int .u8)),some tI,some tI],.drow 7 TInstance],rG 106 17++[129,130]++rG 132 14++rG 123 6++[131],[],[],[]⟩)],[],[],[]⟩ N (ce _) ((q21 (Z_0 N) K_0 q60)) Tryz.func178
def c3:Ct0:=ct ⟨(.pair TDesign .nil),(.pair (.slice Tl05Place) .nil),[true],F_43 N,false⟩ [] ⟨[(0,⟨[.tmp 4 tI,.row 1 Tl05Place],[5,6]++rG 8 35,[],[],[]⟩),(2,⟨[.tmp 6 tI,.row 1 Tl05Place],[],[],[],[]⟩),(4,⟨[.tmp 7 tI,.row 1 Tl05Place],rG 43 25,[],[],[]⟩)],[],[],[]⟩ [] N Tryz.func99
def c4:Ct0:=ct ⟨(.pair TDesign tN),(.pair (.slice tI) .nil),[true],F_44 N,false⟩ [] ⟨[(0,⟨[.tmp 7 tI,.row 1 tI],[8]++rG 11 25,[],[],[]⟩)],[],[],[]⟩ [c3 N] N Tryz.func107
def c5:Ct0:=ct ⟨(.pair tI tN),(.pair TWire .nil),[true,true,true,true],F_45 N,false⟩ [] hnn [] N Tryz.func243
def c6:Ct0:=ct ⟨(.pair (.slice tI) .nil),(.pair (.slice tI) .nil),[true],F_46 N,false⟩ [] hnn [] N Tryz.func240
def S_10(N:Nat):VioSpec:=⟨Tl01Source,tN,(.pair TWire .nil),[true,true,true,true],fun v x=>F_10 N (v,x),true⟩
theorem Z_10(N:Nat):VioOk Tryz.prog 179 (S_10 N):=sndV ⟨es0 [c6 N,c5 N],[],[],[],[(40,.vio (S_0 N))]⟩ ⟨[(0,⟨[.tmp 6 tI,.var 0 [some (.slice (.int .u8)),some tI,some tI],.row 3 tI,.row 4 tI,.row 5 tI,.var 7 [none,none,none,none]],[7]++rG 15 32++[12],[],[],[(7,0,3),(7,1,4),(7,2,5)]⟩),(2,⟨[.tmp 8 tI,.var 0 [some (.slice (.int .u8)),some tI,some tI],.row 6 tI],rG 47 16,[],[],[]⟩)],[],[],[]⟩ N (ce _) ((q21 (Z_0 N) K_0 q60)) Tryz.func179
def S_11(N:Nat):VioSpec:=⟨Tl01Source,(.pair tI (.pair .bool .nil)),(.pair TBlock .nil),[false,true,true,true,true],fun v x=>F_11 N (v,x),true⟩
theorem K_11:CB 112:=cb Tryz.func112
theorem Z_11(N:Nat):VioOk Tryz.prog 112 (S_11 N):=sndV ⟨es0 [c4 N],[1000017],[],[],[(177,.vio (S_7 N)),(178,.vio (S_9 N)),(179,.vio (S_10 N))]⟩ ⟨[(0,⟨[.tmp 10 tI,.var 0 [some (.slice (.int .u8)),some tI,some tI],.drow 8 TWire],rG 17 17,[],[],[]⟩)],[],[],[]⟩ N (ce _) ((q21 (Z_7 N) (cb Tryz.func177) (q21 (Z_9 N) (cb Tryz.func178) (q21 (Z_10 N) (cb Tryz.func179) q60)))) Tryz.func112
def S_12(N:Nat):VioSpec:=⟨Tl01Source,.nil,(.pair TBlock .nil),[false,true,true,true,false],fun v x=>F_12 N (v,x),true⟩
theorem Z_12(N:Nat):VioOk Tryz.prog 176 (S_12 N):=sndV ⟨es0 [c6 N],[],[],[],[(40,.vio (S_0 N)),(112,.vio (S_11 N))]⟩ ⟨[],[(5,[(12,none)])],[],[]⟩ N (ce _) ((q21 (Z_0 N) K_0 (q21 (Z_11 N) K_11 q60))) Tryz.func176
def S_13(N:Nat):VioSpec:=⟨Tl01Source,.nil,(.pair TBlock .nil),[],fun v x=>F_13 N (v,x),false⟩
theorem Z_13(N:Nat):VioOk Tryz.prog 110 (S_13 N):=sndV ⟨[],[],[],[],[(40,.vio (S_0 N)),(112,.vio (S_11 N)),(176,.vio (S_12 N))]⟩ ⟨[],[],[],[]⟩ N (q105) ((q21 (Z_0 N) K_0 (q21 (Z_11 N) K_11 (q21 (Z_12 N) (cb Tryz.func176) q60)))) Tryz.func110
def S_14(N:Nat):VioSpec:=⟨Tl01Source,.nil,(.pair TCorner .nil),[],fun v x=>F_14 N (v,x),false⟩
theorem Z_14(N:Nat):VioOk Tryz.prog 111 (S_14 N):=sndV ⟨[],[],[],[],[(40,.vio (S_0 N))]⟩ ⟨[],[],[],[]⟩ N (q105) ((q21 (Z_0 N) K_0 q60)) Tryz.func111
def c7:Ct0:=ctA (.pair .str .nil) (.pair .bool .nil) (F_47 N) ⟨[(0,⟨[.tmp 3 tI],rG 4 38,[],[],[]⟩)],[],[],[]⟩ [] N Tryz.func196
def c8:Ct0:=ctB (.pair tI (.pair tI tN)) (.pair .bool .nil) (F_15 N) [] N Tryz.func77
def c9:Ct0:=ct ⟨(.pair TCell .nil),(.pair tI (.pair .bool .nil)),[false,false],F_48 N,false⟩ [] ⟨[(0,⟨[.tmp 5 tI,.tmp 6 tI],[7,8]++rG 18 67,[],[],[]⟩),(2,⟨[.tmp 8 tI],[],[],[],[]⟩)],[],[],[]⟩ [c8 N,c7 N] N Tryz.func292
def c10:Ct0:=ctA (.pair (.slice tI) .nil) (.pair .bool .nil) (F_49 N) ⟨[(0,⟨[.tmp 3 tI],rG 4 28,[],[],[]⟩)],[],[],[]⟩ [c8 N] N Tryz.func369
def c11:Ct0:=ctA (.pair TTable .nil) (.pair .bool .nil) (F_50 N) ⟨[(0,⟨[.tmp 3 tI],rG 27 14,[],[],[]⟩)],[],[],[]⟩ [c8 N,c10 N] N Tryz.func359
def c12:Ct0:=ct ⟨(.pair TTable .nil),(.pair TSpan tN),[false,false,false],F_51 N,false⟩ [] ⟨[(0,⟨[.tmp 5 tI,.var 2 [some tI,some tI]],rG 19 25,[],[],[]⟩)],[],[],[]⟩ [c11 N] N Tryz.func343
def c13:Ct0:=ctA (.pair (.slice TTable) (.pair .bool .nil)) (.pair .bool .nil) (F_52 N) ⟨[(0,⟨[.tmp 5 tI],[6,7]++rG 11 22,[],[],[]⟩)],[],[],[]⟩ [c12 N] N Tryz.func322
def c14:Ct0:=ctB (.pair TCell (.pair TArc .nil)) (.pair .bool .nil) (F_53 N) [c8 N,c13 N] N Tryz.func293
def c15:Ct0:=ct ⟨(.pair TCell .nil),(.pair (.slice tI) .nil),[true],F_54 N,false⟩ [] ⟨[(0,⟨[.tmp 4 tI,.row 1 tI],rG 6 18,[],[],[]⟩)],[],[],[]⟩ [] N Tryz.func294
def c16:Ct0:=ctA (.pair TCell .nil) (.pair .bool .nil) (F_55 N) ⟨[(0,⟨[.tmp 5 tI],[6,7]++rG 41 52,[],[],[]⟩),(2,⟨[.tmp 7 tI],[],[],[],[]⟩),(5,⟨[.tmp 9 tI],rG 99 14,[],[],[]⟩)],[],[],[]⟩ [c8 N,c7 N,c9 N,c14 N,c15 N] N Tryz.func239
def c17:Ct0:=ctA (.pair TLibrary .nil) (.pair .bool .nil) (F_56 N) ⟨[(0,⟨[.tmp 3 tI],rG 4 33,[],[],[]⟩),(2,⟨[.tmp 4 tI],[],[],[],[]⟩)],[],[],[]⟩ [c16 N] N Tryz.func173
def c18:Ct0:=ctA (.pair TLibrary (.pair TDesign .nil)) (.pair .bool .nil) (F_57 N) ⟨[(0,⟨[.tmp 6 tI],[7,8]++rG 13 50,[],[],[]⟩),(2,⟨[.tmp 8 tI],[],[],[],[]⟩),(4,⟨[.tmp 9 tI],rG 63 27,[],[],[]⟩)],[],[],[]⟩ [c8 N] N Tryz.func174
def c19:Ct0:=ctA (.pair (.slice .str) .nil) (.pair .bool .nil) (F_58 N) ⟨[(0,⟨[.tmp 3 tI],rG 4 27,[],[],[]⟩),(2,⟨[.tmp 4 tI],[],[],[],[]⟩)],[],[],[]⟩ [c7 N] N Tryz.func175
def c20:Ct0:=ctA (.pair TLibrary (.pair TDesign .nil)) (.pair .bool .nil) (F_59 N) ⟨[(0,⟨[.tmp 6 tI,.row 2 .str],rG 41 17,[],[],[]⟩),(2,⟨[.tmp 8 tI,.row 3 .str],rG 58 17,[],[],[]⟩),(4,⟨[.tmp 10 tI,.row 4 tI],[11]++rG 93 24,[],[],[]⟩),(6,⟨[.tmp 12 tI,.row 4 tI],rG 117 25,[],[],[]⟩),(8,⟨[.tmp 13 tI],rG 142 11,[],[],[]⟩)],[],[],[]⟩ [c17 N,c18 N,c19 N] N Tryz.func105
def c21:Ct0:=ctA (.pair TWire tN) (.pair .bool .nil) (F_60 N) ⟨[(0,⟨[.tmp 6 tI],rG 38 54,[],[],[]⟩),(2,⟨[.tmp 7 tI],rG 92 16,[],[],[]⟩)],[],[],[]⟩ [c8 N] N Tryz.func106
def c22:Ct0:=ctA (.pair TBlock .nil) (.pair .bool .nil) (F_61 N) ⟨[(0,⟨[.tmp 3 tI],rG 20 19,[],[],[]⟩)],[],[],[]⟩ [c20 N,c21 N,c4 N] N Tryz.func52
def c23:Ct0:=ctA (.pair TDesign (.pair tI tN)) tN (F_62 N) ⟨[(0,⟨[.tmp 8 tI],rG 11 22,[],[],[]⟩)],[],[],[]⟩ [c3 N] N Tryz.func132
def c24:Ct0:=ctA (.pair TDesign tN) tN (F_63 N) ⟨[(0,⟨[.tmp 6 tI],rG 9 20,[],[],[]⟩)],[],[],[]⟩ [c3 N] N Tryz.func133
def S_16(N:Nat):FnSpec:=⟨.pair TBlock .nil,(.pair (.slice TLink) .nil),[true],F_16 N,false⟩
theorem KI_131:CB 131:=cb Tryz.func131
def I_17:InF:=⟨131,Tryz.f131,⟨[(0,⟨[.tmp 11 tI,.row 1 TLink],rG 12 42,[],[],[]⟩),
 (2,⟨[.tmp 12 tI,.row 1 TLink],[],[],[],[]⟩)],[],[],[]⟩,[],true⟩
theorem KI_134:CB 134:=cb Tryz.func134
def I_18:InF:=⟨134,Tryz.f134,⟨[],[],[],[]⟩,[],true⟩
theorem Z_16(N:Nat):SN0 65 (S_16 N):=snd ⟨es0 [c4 N,c23 N,c24 N],[],[I_17,I_18],[],[]⟩ ⟨[(0,⟨[.tmp 5 tI,.row 1 TLink],[6,7,12]++rG 15 54,[],[],[]⟩),(2,⟨[.tmp 7 tI,.row 1 TLink],[],[],[],[]⟩),(4,⟨[.tmp 8 tI,.row 1 TLink],[9,10,11]++rG 69 35,[],[],[]⟩),(6,⟨[.tmp 11 tI,.row 1 TLink],[],[],[],[]⟩)],[],[],[]⟩ N (ce _) Tryz.func65 (hi:=(q165 Tryz.func131 KI_131 (q165 Tryz.func134 KI_134 q375)))
def c25:Ct0:=⟨(65,[]),S_16 N,Z_16 N,(cb Tryz.func65)⟩
def S_19(N:Nat):VioSpec:=⟨Tl01Source,(.pair TBlock .nil),(.pair (.slice tI) .nil),[],fun v x=>F_19 N (v,x),false⟩
theorem Z_19(N:Nat):VioOk Tryz.prog 113 (S_19 N):=sndV ⟨es0 [c22 N,c25 N],[],[],[],[(40,.vio (S_0 N))]⟩ ⟨[(0,⟨[.tmp 8 tI,.var 0 [some (.slice (.int .u8)),some tI,some tI],.row 3 tI],[9]++rG 28 13,[],[],[]⟩)],[],[],[]⟩ N (ce _) ((q21 (Z_0 N) K_0 q60)) Tryz.func113
def c26:Ct0:=ctA (.pair (.slice tI) tN) (.pair .bool .nil) (F_64 N) ⟨[(0,⟨[.tmp 5 tI],rG 6 12,[],[],[]⟩)],[],[],[]⟩ [] N Tryz.func136
def c27:Ct0:=ct ⟨(.pair (.slice TLink) (.pair (.slice tI) .nil)),(.pair (.slice .bool) .nil),[true],F_65 N,false⟩ [] ⟨[(0,⟨[.tmp 6 tI,.row 0 .bool],rG 7 14,[],[],[]⟩)],[],[],[]⟩ [c26 N] N Tryz.func67
def c28:Ct0:=ctB (.pair TBlock .nil) tN (F_66 N) [c3 N] N Tryz.func49
def c29:Ct0:=ct ⟨(.pair tI (.pair (.slice TLink) (.pair (.slice .bool) (.pair tI (.pair .bool .nil))))),(.pair (.slice .bool) .nil),[true],F_67 N,false⟩ [] ⟨[(0,⟨[.tmp 12 .bool,.row 0 .bool],[13,14,15]++rG 21 41,[],[],[]⟩),(2,⟨[.tmp 12 .bool,.tmp 13 tI,.row 0 .bool],[],[],[],[]⟩)],[],[],[]⟩ [] N Tryz.func244
def c30:Ct0:=ctA (.pair (.slice TLink) (.pair (.slice .bool) tN)) (.pair .bool .nil) (F_68 N) ⟨[(0,⟨[.tmp 7 tI],rG 8 28,[],[],[]⟩)],[],[],[]⟩ [] N Tryz.func245
def S_20(N:Nat):FnSpec:=⟨.pair tI (.pair (.slice TLink) (.pair (.slice .bool) .nil)),(.pair (.slice (.slice tI)) .nil),[true],F_20 N,true⟩
theorem Z_20(N:Nat):SN0 180 (S_20 N):=snd ⟨es0 [c29 N,c30 N],[1000014],[],[],[]⟩ ⟨[(0,⟨[.tmp 9 tI,.drow 0 (.slice tI),.row 1 .bool],rG 17 9++rG 10 5++rG 26 37++rG 67 5++[63,64,65,66],[],[],[]⟩),(2,⟨[.tmp 13 tI,.row 1 .bool,.row 4 tI],[36],[],[],[]⟩)],[],[],[]⟩ N (ce _) Tryz.func180
def c31:Ct0:=⟨(180,[]),S_20 N,Z_20 N,(cb Tryz.func180)⟩
def c32:Ct0:=ct ⟨(.pair TBlock .nil),(.pair (.slice tI) .nil),[true],F_69 N,false⟩ [] ⟨[(0,⟨[.row 3 .bool],[6,7,8]++rG 18 51,[],[],[]⟩),(2,⟨[.tmp 7 tI,.tmp 8 tI],[],[],[],[]⟩),(4,⟨[.tmp 10 tI,.row 5 tI],rG 69 16,[],[],[]⟩)],[(1000002,[(6,none)])],[],[]⟩ [c28 N,c25 N,c27 N,c26 N,c31 N] N Tryz.func114
def S_21(N:Nat):VioSpec:=⟨Tl01Source,(.pair TBlock .nil),(.pair (.slice TSource) .nil),[],fun v x=>F_21 N (v,x),false⟩
theorem Z_21(N:Nat):VioOk Tryz.prog 115 (S_21 N):=sndV ⟨es0 [c22 N,c3 N],[],[],[],[(40,.vio (S_0 N))]⟩ ⟨[(0,⟨[.tmp 7 tI,.var 0 [some (.slice (.int .u8)),some tI,some tI],.row 3 TSource],[8,9,10,11,13]++rG 21 59,[],[],[]⟩),(2,⟨[.tmp 9 tI,.var 0 [some (.slice (.int .u8)),some tI,some tI],.row 3 TSource],[],[],[],[]⟩)],[],[],[]⟩ N (ce _) ((q21 (Z_0 N) K_0 q60)) Tryz.func115
def S_22(N:Nat):VioSpec:=⟨Tl01Source,.nil,(.pair TBlock (.pair TCorner (.pair (.slice tI) (.pair (.slice TSource) .nil)))),[],fun v x=>F_22 N (v,x),false⟩
theorem Z_22(N:Nat):VioOk Tryz.prog 54 (S_22 N):=sndV ⟨es0 [c22 N,c32 N],[],[],[],[(40,.vio (S_0 N)),(110,.vio (S_13 N)),(111,.vio (S_14 N)),(112,.vio (S_11 N).data),(113,.vio (S_19 N)),(115,.vio (S_21 N))]⟩ ⟨[],[],[],[]⟩ N (ce _) ((q21 (Z_0 N) K_0 (q21 (Z_13 N) (cb Tryz.func110) (q21 (Z_14 N) (cb Tryz.func111) (q21 (Z_11 N).data K_11 (q21 (Z_19 N) (cb Tryz.func113) (q21 (Z_21 N) (cb Tryz.func115) q60))))))) Tryz.func54
def S_23(N:Nat):VioSpec:=⟨Tl01Source,.nil,(.pair TJob .nil),[],fun v x=>F_23 N (v,x),false⟩
theorem Z_23(N:Nat):VioOk Tryz.prog 137 (S_23 N):=sndV ⟨[],[],[],[],[(54,.vio (S_22 N))]⟩ ⟨[],[],[],[]⟩ N (q105) ((q21 (Z_22 N) (cb Tryz.func54) q60)) Tryz.func137
def c33:Ct0:=ctA (.pair TCorner .nil) (.pair .bool .nil) (F_70 N) ⟨[(0,⟨[.tmp 4 tI],rG 14 12,[],[],[]⟩)],[],[],[]⟩ [c8 N,c7 N] N Tryz.func124
def c34:Ct0:=ctA (.pair (.slice tI) tN) (.pair .bool .nil) (F_71 N) ⟨[(0,⟨[.tmp 5 tI],rG 6 30,[],[],[]⟩)],[],[],[]⟩ [c8 N] N Tryz.func205
def c35:Ct0:=ctB (.pair TBlock (.pair (.slice tI) .nil)) tN (F_72 N) [c22 N,c25 N,c34 N] N Tryz.func128
def c36:Ct0:=ctB (.pair TSpan .nil) (.pair .bool .nil) (F_73 N) [c8 N] N Tryz.func108
def c37:Ct0:=ctB (.pair TSpan .nil) (.pair .bool .nil) (F_74 N) [] N Tryz.func109
def c38:Ct0:=ctA (.pair TBlock (.pair (.slice TSource) .nil)) (.pair .bool .nil) (F_75 N) ⟨[(0,⟨[.tmp 6 tI],rG 9 51,[],[],[]⟩)],[],[],[]⟩ [c28 N,c8 N,c36 N,c37 N] N Tryz.func129
def c39:Ct0:=ct ⟨(.pair tI (.pair (.slice TLink) (.pair (.slice .bool) .nil))),(.pair (.slice tI) (.pair .bool .nil)),[true,false],F_76 N,false⟩ [] ⟨[(0,⟨[.row 0 tI,.row 1 .bool],[10,11,12,13]++rG 16 54++rG 71 7,[],[],[]⟩),(2,⟨[.tmp 11 tI,.row 2 .bool],[],[],[],[]⟩),(4,⟨[.tmp 12 tI],[],[],[],[]⟩)],[],[],[]⟩ [] N Tryz.func147
def c40:Ct0:=ct ⟨(.pair TBlock (.pair (.slice tI) .nil)),(.pair (.slice tI) tN),[true,false],F_77 N,false⟩ [] hnn [c28 N,c25 N,c27 N,c35 N,c39 N] N Tryz.func130
def c41:Ct0:=ct ⟨(.pair TBlock (.pair TCorner (.pair (.slice tI) (.pair (.slice TSource) .nil)))),(.pair (.slice tI) tN),[true,false],F_78 N,false⟩ [] hnn [c22 N,c33 N,c35 N,c38 N,c40 N] N Tryz.func64
def c42:Ct0:=ct ⟨tN,(.pair TTiming .nil),[true,true,true],F_79 N,false⟩ [] hnn [] N Tryz.func97
def c43:Ct0:=ctB (.pair TLibrary (.pair TDesign (.pair Tl05Place .nil))) tN (F_80 N) [] N Tryz.func351
def c44:Ct0:=ct ⟨(.pair TBlock tN),(.pair (.slice tI) .nil),[true],F_81 N,false⟩ [] ⟨[(0,⟨[.tmp 9 tI,.row 2 tI],rG 26 28,[],[],[]⟩),(2,⟨[.tmp 10 tI,.row 2 tI],rG 57 18,[],[],[]⟩)],[],[],[]⟩ [c3 N,c4 N,c6 N,c43 N] N Tryz.func331
def c45:Ct0:=ct ⟨(.pair TBlock (.pair TLink .nil)),(.pair TArc tN),(rF 7),F_82 N,false⟩ [] hnn [c3 N,c44 N] N Tryz.func304
def c46:Ct0:=ct ⟨(.pair (.slice tI) tN),(.pair tI (.pair tI tN)),[false,false,false],F_83 N,false⟩ [] ⟨[(0,⟨[.tmp 8 tI],rG 25 10++rG 36 6,[],[],[]⟩)],[],[],[]⟩ [] N Tryz.func332
def c47:Ct0:=ctB (.pair tI (.pair tI tN)) tN (F_84 N) [] N Tryz.func308
def c48:Ct0:=ctA (.pair TTable (.pair tI (.pair tI tN))) tN (F_85 N) ⟨[(0,⟨[.tmp 16 tI,.tmp 17 tI],[18,19]++rG 39 39,[],[],[]⟩),(2,⟨[.tmp 16 tI,.tmp 18 tI],[],[],[],[]⟩)],[],[],[]⟩ [c47 N,c46 N] N Tryz.func305
def c49:Ct0:=ctB (.pair TCorner (.pair tI tN)) tN (F_86 N) [] N Tryz.func309
def c50:Ct0:=ctB (.pair TBlock (.pair TLink .nil)) tN (F_87 N) [c3 N] N Tryz.func307
def c51:Ct0:=ct ⟨(.pair TBlock tN),(.pair (.slice tI) .nil),[true],F_88 N,false⟩ [] ⟨[(0,⟨[.tmp 8 tI,.row 3 tI],rG 17 29,[],[],[]⟩)],[],[],[]⟩ [c44 N] N Tryz.func333
def c52:Ct0:=ct ⟨(.pair TBlock (.pair tI tN)),(.pair (.slice tI) .nil),[true],F_89 N,false⟩ [] ⟨[(0,⟨[.tmp 9 tI,.row 2 tI],rG 13 29,[],[],[]⟩)],[],[],[]⟩ [c47 N,c51 N] N Tryz.func306
def c53:Ct0:=ctB (.pair TBlock (.pair TCorner (.pair TLink (.pair tI tN)))) tN (F_90 N) [c45 N,c48 N,c52 N,c50 N,c47 N,c49 N] N Tryz.func264
def c54:Ct0:=ctA (.pair tI tN) tN (F_91 N) ⟨[(0,⟨[.tmp 5 tI,.tmp 6 tI],rG 7 17,[],[],[]⟩)],[],[],[]⟩ [] N Tryz.func334
def c55:Ct0:=ctB (.pair TBlock (.pair tI (.pair tI (.pair tI tN)))) tN (F_92 N) [c47 N,c51 N,c54 N] N Tryz.func310
def c56:Ct0:=ctB (.pair TBlock (.pair TLink (.pair tI tN))) tN (F_93 N) [c45 N,c48 N,c50 N,c55 N] N Tryz.func265
def c57:Ct0:=ct ⟨(.pair TBlock (.pair TCorner (.pair TLink (.pair TSpan .nil)))),(.pair TSpan (.pair TSpan .nil)),(rF 4),F_94 N,false⟩ [] hnn [c53 N,c56 N] N Tryz.func206
def c58:Ct0:=ct ⟨(.pair TSpan (.pair TSpan .nil)),(.pair TSpan .nil),[false,false],F_95 N,false⟩ [] hnn [] N Tryz.func98
end
end Go.Proofs.YtcmhpcoiomdekaaGreatDoor
