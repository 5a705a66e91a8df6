/- The functions' contracts. Printed by my dec.py. No condition of its own. -/
import Derived.Test.YtcmhpcoiomdekaaGreatDoorPgL
import Derived.Test.YtcmhpcoiomdekaaGreatDoorPvF1
import Derived.Test.YtcmhpcoiomdekaaGreatDoorProg
import Derived.Test.YtcmhpcoiomdekaaGreatDoorPgG
namespace Go.Proofs.YtcmhpcoiomdekaaGreatDoor
abbrev tI:Ty:=.int .i64
abbrev tN:Ty:=.pair tI .nil
abbrev rG:=List.range'
open Go.RowKit
set_option maxRecDepth 100000
set_option linter.unusedVariables false
noncomputable section
abbrev CB(f:FuncId):Prop:=q19 Tryz.prog f
theorem cb{f : FuncId}{fn : Func}(h : Tryz.prog.funcs[f]? = some fn)(h1 : fn.body.isNone = false := by kernel_rfl)(h2 : (fn.name == "runtime.NumGoroutine") = false := by kernel_rfl) : CB f := ⟨_, h, h1, h2⟩
abbrev SN(f:FuncId)(S:FnSpec):Prop:=Sound Tryz.prog PRE f S
theorem snd(C:Ctx)(H:Hints)(N:Nat){f:FuncId}{fn:Func}{S:FnSpec}(hc:∀ p∈C.fns,Sound Tryz.prog PRE p.1.1 p.2/\q19 Tryz.prog p.1.1)(hf:Tryz.prog.funcs[f]?=some fn)(hm:Tryz.prog.follows .mixedOrders=true:=by kernel_rfl)(hp:q72 S.ps=true:=by kernel_rfl)
 (h:∀ x,pevFn Tryz.prog C N H S fn x=S.fn x:=by intro x; kernel_rfl) (hi:∀ x∈C.inl,Tryz.prog.funcs[x.fid]?=some x.fn/\q19 Tryz.prog x.fid:=by intro x hx; cases hx) (ht:∀ w,PRE w->TabsAt C.tabs w:=by exact fun w _=>q175 w) (hio:∀ p∈C.io,HookOk Tryz.prog p.1 p.2/\q19 Tryz.prog p.1:=by intro p hp; cases hp):SN f S:=
 q564 (C:=C) (H:=H) (N:=N) (q423 q408 hm hc hi ht hio) hf hp (fun x r k=>(h x).trans k)
theorem sndX(C:Ctx)(H:Hints)(N:Nat){f:FuncId}{fn:Func}{S:FnSpec}(hc:∀ p∈C.fns,Sound Tryz.prog PRE p.1.1 p.2/\q19 Tryz.prog p.1.1)(hio:∀ p∈C.io,HookOk Tryz.prog p.1 p.2/\q19 Tryz.prog p.1)(hf:Tryz.prog.funcs[f]?=some fn)(hm:Tryz.prog.follows .mixedOrders=true:=by kernel_rfl)(hp:q72 S.ps=true:=by kernel_rfl)
 (h:∀ x,pevFnX Tryz.prog C N H S fn x=S.fn x:=by intro x; kernel_rfl) (hi:∀ x∈C.inl,Tryz.prog.funcs[x.fid]?=some x.fn/\q19 Tryz.prog x.fid:=by intro x hx; cases hx) (ht:∀ w,PRE w->TabsAt C.tabs w:=by exact fun w _=>q175 w):SN f S:=
 q512 (C:=C) (H:=H) (N:=N) (q423 q408 hm hc hi ht hio) hf hp (fun x r k=>(h x).trans k)
theorem sndR(C:Ctx)(H:Hints)(N:Nat){f:FuncId}{fn:Func}{S:RecSpec}(hc:∀ p∈C.fns,Sound Tryz.prog PRE p.1.1 p.2/\q19 Tryz.prog p.1.1)(hio:∀ p∈C.io,HookOk Tryz.prog p.1 p.2/\q19 Tryz.prog p.1)(hf:Tryz.prog.funcs[f]?=some fn)(hm:Tryz.prog.follows .mixedOrders=true:=by kernel_rfl)
 (h:∀ x wv xs,pevFnR Tryz.prog C N H S f fn x wv xs=S.fn x wv xs:=by intro x wv xs; kernel_rfl) (hi:∀ x∈C.inl,Tryz.prog.funcs[x.fid]?=some x.fn/\q19 Tryz.prog x.fid:=by intro x hx; cases hx) (ht:∀ w,PRE w->TabsAt C.tabs w:=by exact fun w _=>q175 w) (hT:∀ w,PRE w:=by exact fun _=>trivial):RecOk Tryz.prog f S:=
 q718 (C:=C) (H:=H) (N:=N) (q423 q408 hm hc hi ht hio) hT hf (fun x wv xs r k=>(h x wv xs).trans k)
theorem sndV(C:Ctx)(H:Hints)(N:Nat){f:FuncId}{fn:Func}{S:VioSpec}(hc:∀ p∈C.fns,Sound Tryz.prog PRE p.1.1 p.2/\q19 Tryz.prog p.1.1)(hio:∀ p∈C.io,HookOk Tryz.prog p.1 p.2/\q19 Tryz.prog p.1)(hf:Tryz.prog.funcs[f]?=some fn)(hm:Tryz.prog.follows .mixedOrders=true:=by kernel_rfl)
 (h:∀ v x,pevFnV Tryz.prog C N H S fn v x=S.fn v x:=by intro v x; kernel_rfl) (hi:∀ x∈C.inl,Tryz.prog.funcs[x.fid]?=some x.fn/\q19 Tryz.prog x.fid:=by intro x hx; cases hx) (ht:∀ w,PRE w->TabsAt C.tabs w:=by exact fun w _=>q175 w) (hT:∀ w,PRE w:=by exact fun _=>trivial):VioOk Tryz.prog f S:=
 q704 (C:=C) (H:=H) (N:=N) (q423 q408 hm hc hi ht hio) hT hf (fun v x r k=>(h v x).trans k)
abbrev rF(n:Nat):List Bool:=List.replicate n false
structure Ct where
 k:FuncId×List FuncId
 S:FnSpec
 z:SN k.1 S
 c:CB k.1
def es(l:List Ct):CtxL:=l.map fun c=>(c.k,c.S)
theorem ce(l:List Ct):∀ p∈es l,Sound Tryz.prog PRE p.1.1 p.2/\q19 Tryz.prog p.1.1:=by intro p hp;obtain ⟨c,_,rfl⟩:=ba.1 hp;exact ⟨c.z,c.c⟩
def ct(S:FnSpec)(g:List FuncId)(H:Hints)(l:List Ct)(N:Nat){f:FuncId}{fn:Func}(hf:Tryz.prog.funcs[f]?=some fn)(hp:q72 S.ps=true:=by kernel_rfl)
 (h : ∀ x, pevFn Tryz.prog ⟨es l, [], [], [], []⟩ N H S fn x = S.fn x := by intro x; kernel_rfl) (h1 : fn.body.isNone = false := by kernel_rfl) (h2 : (fn.name == "runtime.NumGoroutine") = false := by kernel_rfl) : Ct :=
 ⟨(f,g),S,snd ⟨es l,[],[],[],[]⟩ H N (ce l) hf (hp:=hp) (h:=h),_,hf,h1,h2⟩
def ctA(ps rs:Ty)(F:ps.den->Option rs.den)(H:Hints)(l:List Ct)(N:Nat){f:FuncId}{fn:Func}(hf:Tryz.prog.funcs[f]?=some fn)(hp:q72 ps=true:=by kernel_rfl)
 (h : ∀ x, pevFn Tryz.prog ⟨es l, [], [], [], []⟩ N H ⟨ps, rs, [false], F, false⟩ fn x = F x := by intro x; kernel_rfl) (h1 : fn.body.isNone = false := by kernel_rfl) (h2 : (fn.name == "runtime.NumGoroutine") = false := by kernel_rfl) : Ct :=
 ct ⟨ps,rs,[false],F,false⟩ [] H l N hf hp h h1 h2
abbrev hnn:Hints:=⟨[],[],[],[]⟩
def ctB(ps rs:Ty)(F:ps.den->Option rs.den)(l:List Ct)(N:Nat){f:FuncId}{fn:Func}(hf:Tryz.prog.funcs[f]?=some fn)(hp:q72 ps=true:=by kernel_rfl)
 (h : ∀ x, pevFn Tryz.prog ⟨es l, [], [], [], []⟩ N hnn ⟨ps, rs, [false], F, false⟩ fn x = F x := by intro x; kernel_rfl) (h1 : fn.body.isNone = false := by kernel_rfl) (h2 : (fn.name == "runtime.NumGoroutine") = false := by kernel_rfl) : Ct :=
 ctA ps rs F hnn l N hf hp h h1 h2
variable (N:Nat)
def c0:Ct:=ctB (.pair (.slice (.int .u8)) .nil) (.pair .bool .nil) (F_47 N) [] N Tryz.func7
def S_0(N:Nat):VioSpec:=⟨Tl01Source,tN,tN,[],fun v x=>F_0 N (v,x),false⟩
theorem K_0:CB 40:=cb Tryz.func40
theorem Z_0(N:Nat):VioOk Tryz.prog 40 (S_0 N):=sndV ⟨[],[],[],[],[]⟩ ⟨[],[],[],[]⟩ N (q81) (q49) Tryz.func40
def c1:Ct:=ctA (.pair TCell tN) tN (F_48 N) ⟨[(0,⟨[.tmp 8 tI,.tmp 5 .bool,.tmp 6 .bool],rG 12 43,[],[],[]⟩)],[],[],[]⟩ [] N Tryz.func295
def S_1(N:Nat):VioSpec:=⟨Tl01Source,tN,(.pair (.slice tI) .nil),[],fun v x=>F_1 N (v,x),false⟩
theorem Z_1(N:Nat):VioOk Tryz.prog 360 (S_1 N):=sndV ⟨[],[],[],[],[(40,.vio (S_0 N))]⟩ ⟨[(0,⟨[.tmp 6 tI,.tmp 7 tI,.var 0 [some (.slice (.int .u8)),some tI,some tI],.row 2 tI],[8]++rG 15 14,[],[],[]⟩)],[],[],[]⟩ N (q81) ((q21 (Z_0 N) K_0 q49)) Tryz.func360
def S_2(N:Nat):VioSpec:=⟨Tl01Source,tN,(.pair TTable .nil),[],fun v x=>F_2 N (v,x),false⟩
theorem Z_2(N:Nat):VioOk Tryz.prog 344 (S_2 N):=sndV ⟨[],[],[],[],[(40,.vio (S_0 N)),(360,.vio (S_1 N))]⟩ ⟨[(0,⟨[.tmp 9 tI,.var 0 [some (.slice (.int .u8)),some tI,some tI],.row 3 tI],[10,15]++rG 18 44,[],[],[]⟩)],[],[],[]⟩ N (q81) ((q21 (Z_0 N) K_0 (q21 (Z_1 N) (cb Tryz.func360) q49))) Tryz.func344
def S_3(N:Nat):VioSpec:=⟨Tl01Source,tN,(.pair (.slice TTable) .nil),[],fun v x=>F_3 N (v,x),false⟩
theorem Z_3(N:Nat):VioOk Tryz.prog 323 (S_3 N):=sndV ⟨[],[],[],[],[(344,.vio (S_2 N))]⟩ ⟨[],[],[],[]⟩ N (q81) ((q21 (Z_2 N) (cb Tryz.func344) q49)) Tryz.func323
def S_4(N:Nat):VioSpec:=⟨Tl01Source,(.pair tI (.pair tI (.pair tI tN))),(.pair TArc .nil),[],fun v x=>F_4 N (v,x),false⟩
theorem K_4:CB 296:=cb Tryz.func296
theorem Z_4(N:Nat):VioOk Tryz.prog 296 (S_4 N):=sndV ⟨[],[],[],[],[(40,.vio (S_0 N)),(323,.vio (S_3 N))]⟩ ⟨[],[],[],[]⟩ N (q81) ((q21 (Z_0 N) K_0 (q21 (Z_3 N) (cb Tryz.func323) q49))) Tryz.func296
def S_5(N:Nat):VioSpec:=⟨Tl01Source,(.pair .str (.pair (.slice tI) .nil)),(.pair TCell .nil),[],fun v x=>F_5 N (v,x),false⟩
theorem Z_5(N:Nat):VioOk Tryz.prog 241 (S_5 N):=sndV ⟨es [c1 N],[],[],[],[(40,.vio (S_0 N)),(296,.vio (S_4 N))]⟩ ⟨[(0,⟨[.tmp 10 tI,.var 0 [some (.slice (.int .u8)),some tI,some tI],.row 5 TPin],rG 23 19,[],[],[]⟩),(2,⟨[.tmp 13 tI,.var 0 [some (.slice (.int .u8)),some tI,some tI],.row 7 TArc],[14]++rG 49 19,[],[],[]⟩)],[],[],[]⟩ N (ce _) ((q21 (Z_0 N) K_0 (q21 (Z_4 N) K_4 q49))) Tryz.func241
def S_6(N:Nat):VioSpec:=⟨Tl01Source,(.pair .str (.pair tI tN)),(.pair TCell .nil),[],fun v x=>F_6 N (v,x),false⟩
theorem Z_6(N:Nat):VioOk Tryz.prog 242 (S_6 N):=sndV ⟨[],[],[],[],[(40,.vio (S_0 N)),(296,.vio (S_4 N))]⟩ ⟨[],[],[],[]⟩ N (q81) ((q21 (Z_0 N) K_0 (q21 (Z_4 N) K_4 q49))) Tryz.func242
def S_7(N:Nat):VioSpec:=⟨Tl01Source,.nil,(.pair TLibrary .nil),[],fun v x=>F_7 N (v,x),false⟩
theorem Z_7(N:Nat):VioOk Tryz.prog 177 (S_7 N):=sndV ⟨[],[14,17,20,23,26],[],[],[(241,.vio (S_5 N)),(242,.vio (S_6 N))]⟩ ⟨[],[],[],[]⟩ N (q81) ((q21 (Z_5 N) (cb Tryz.func241) (q21 (Z_6 N) (cb Tryz.func242) q49))) Tryz.func177
def S_8(N M:Nat):FnSpec:=⟨tN,(.pair .str .nil),[false],F_8 N M,false⟩
def C_8(N M:Nat):Ctx:=⟨[((93,[]),S_8 N M)],[],[],[],[]⟩
theorem K_8:CB 93:=cb Tryz.func93
theorem Z_8(N:Nat):∀ M,SN 93 (S_8 N M)
 | 0=>fun w args x r ok _ _ _ h=>nomatch (show none=some r from h)
 | M+1=>snd (C_8 N M) ⟨[],[],[],[]⟩ N (q228 (Z_8 N M) K_8 q81) Tryz.func93
def c2(N M:Nat):Ct:=⟨(93,[]),S_8 N M,Z_8 N M,K_8⟩
def S_9(N:Nat):VioSpec:=⟨Tl01Source,(.pair tI (.pair .bool .nil)),(.pair TDesign .nil),[true,true,true],fun v x=>F_9 N (v,x),true⟩
theorem Z_9(N:Nat):VioOk Tryz.prog 178 (S_9 N):=sndV ⟨es [c2 N N],[1000026],[],[],[(40,.vio (S_0 N))]⟩ ⟨[(0,⟨[.tmp 11 tI,.var 0 [some (.slice (.int .u8)),some tI,some tI],.drow 7 TInstance,.row 8 .str],[12,13,14,15,26,30]++rG 36 70,[],[],[]⟩),(2,⟨[.tmp 14 tI,.var 0 [some (.slice (.int .u8)),some tI,some tI],.var 10 [some .str,some tI,none],.row 11 tI],[],[],[(10,2,tI),(10,2,tI),(10,2,tI),(10,2,tI),(10,2,tI),(10,2,tI)],[(10,2,11)]⟩),(4,⟨[.tmp 16 tI,.var 0 [some (.slice (.int .u8)),some tI,some tI],.drow 7 TInstance],rG 106 17++[129,130]++rG 132 14++rG 123 6++[131],[],[],[]⟩)],[],[],[]⟩ N (ce _) ((q21 (Z_0 N) K_0 q49)) Tryz.func178
def c3:Ct:=ct ⟨(.pair TDesign .nil),(.pair (.slice Tl05Place) .nil),[true],F_49 N,false⟩ [] ⟨[(0,⟨[.tmp 4 tI,.row 1 Tl05Place],[5,6]++rG 8 35,[],[],[]⟩),(2,⟨[.tmp 6 tI,.row 1 Tl05Place],[],[],[],[]⟩),(4,⟨[.tmp 7 tI,.row 1 Tl05Place],rG 43 25,[],[],[]⟩)],[],[],[]⟩ [] N Tryz.func99
def c4:Ct:=ct ⟨(.pair TDesign tN),(.pair (.slice tI) .nil),[true],F_50 N,false⟩ [] ⟨[(0,⟨[.tmp 7 tI,.row 1 tI],[8]++rG 11 25,[],[],[]⟩)],[],[],[]⟩ [c3 N] N Tryz.func107
def c5:Ct:=ct ⟨(.pair tI tN),(.pair TWire .nil),[true,true,true,true],F_51 N,false⟩ [] hnn [] N Tryz.func243
def c6:Ct:=ct ⟨(.pair (.slice tI) .nil),(.pair (.slice tI) .nil),[true],F_52 N,false⟩ [] hnn [] N Tryz.func240
def S_10(N:Nat):VioSpec:=⟨Tl01Source,tN,(.pair TWire .nil),[true,true,true,true],fun v x=>F_10 N (v,x),true⟩
theorem Z_10(N:Nat):VioOk Tryz.prog 179 (S_10 N):=sndV ⟨es [c6 N,c5 N],[],[],[],[(40,.vio (S_0 N))]⟩ ⟨[(0,⟨[.tmp 6 tI,.var 0 [some (.slice (.int .u8)),some tI,some tI],.row 3 tI,.row 4 tI,.row 5 tI,.var 7 [none,none,none,none]],[7]++rG 15 32++[12],[],[],[(7,0,3),(7,1,4),(7,2,5)]⟩),(2,⟨[.tmp 8 tI,.var 0 [some (.slice (.int .u8)),some tI,some tI],.row 6 tI],rG 47 16,[],[],[]⟩)],[],[],[]⟩ N (ce _) ((q21 (Z_0 N) K_0 q49)) Tryz.func179
def S_11(N:Nat):VioSpec:=⟨Tl01Source,(.pair tI (.pair .bool .nil)),(.pair TBlock .nil),[false,true,true,true,true],fun v x=>F_11 N (v,x),true⟩
theorem K_11:CB 112:=cb Tryz.func112
theorem Z_11(N:Nat):VioOk Tryz.prog 112 (S_11 N):=sndV ⟨es [c4 N],[1000017],[],[],[(177,.vio (S_7 N)),(178,.vio (S_9 N)),(179,.vio (S_10 N))]⟩ ⟨[(0,⟨[.tmp 10 tI,.var 0 [some (.slice (.int .u8)),some tI,some tI],.drow 8 TWire],rG 17 17,[],[],[]⟩)],[],[],[]⟩ N (ce _) ((q21 (Z_7 N) (cb Tryz.func177) (q21 (Z_9 N) (cb Tryz.func178) (q21 (Z_10 N) (cb Tryz.func179) q49)))) Tryz.func112
def S_12(N:Nat):VioSpec:=⟨Tl01Source,.nil,(.pair TBlock .nil),[false,true,true,true,false],fun v x=>F_12 N (v,x),true⟩
theorem Z_12(N:Nat):VioOk Tryz.prog 176 (S_12 N):=sndV ⟨es [c6 N],[],[],[],[(40,.vio (S_0 N)),(112,.vio (S_11 N))]⟩ ⟨[],[(5,[(12,none)])],[],[]⟩ N (ce _) ((q21 (Z_0 N) K_0 (q21 (Z_11 N) K_11 q49))) Tryz.func176
def S_13(N:Nat):VioSpec:=⟨Tl01Source,.nil,(.pair TBlock .nil),[],fun v x=>F_13 N (v,x),false⟩
theorem Z_13(N:Nat):VioOk Tryz.prog 110 (S_13 N):=sndV ⟨[],[],[],[],[(40,.vio (S_0 N)),(112,.vio (S_11 N)),(176,.vio (S_12 N))]⟩ ⟨[],[],[],[]⟩ N (q81) ((q21 (Z_0 N) K_0 (q21 (Z_11 N) K_11 (q21 (Z_12 N) (cb Tryz.func176) q49)))) Tryz.func110
def S_14(N:Nat):VioSpec:=⟨Tl01Source,.nil,(.pair TCorner .nil),[],fun v x=>F_14 N (v,x),false⟩
theorem Z_14(N:Nat):VioOk Tryz.prog 111 (S_14 N):=sndV ⟨[],[],[],[],[(40,.vio (S_0 N))]⟩ ⟨[],[],[],[]⟩ N (q81) ((q21 (Z_0 N) K_0 q49)) Tryz.func111
def c7:Ct:=ctA (.pair .str .nil) (.pair .bool .nil) (F_53 N) ⟨[(0,⟨[.tmp 3 tI],rG 4 38,[],[],[]⟩)],[],[],[]⟩ [] N Tryz.func196
def c8:Ct:=ctB (.pair tI (.pair tI tN)) (.pair .bool .nil) (F_54 N) [] N Tryz.func77
def c9:Ct:=ct ⟨(.pair TCell .nil),(.pair tI (.pair .bool .nil)),[false,false],F_55 N,false⟩ [] ⟨[(0,⟨[.tmp 5 tI,.tmp 6 tI],[7,8]++rG 18 67,[],[],[]⟩),(2,⟨[.tmp 8 tI],[],[],[],[]⟩)],[],[],[]⟩ [c8 N,c7 N] N Tryz.func292
def c10:Ct:=ctA (.pair (.slice tI) .nil) (.pair .bool .nil) (F_56 N) ⟨[(0,⟨[.tmp 3 tI],rG 4 28,[],[],[]⟩)],[],[],[]⟩ [c8 N] N Tryz.func369
def c11:Ct:=ctA (.pair TTable .nil) (.pair .bool .nil) (F_57 N) ⟨[(0,⟨[.tmp 3 tI],rG 27 14,[],[],[]⟩)],[],[],[]⟩ [c8 N,c10 N] N Tryz.func359
def c12:Ct:=ct ⟨(.pair TTable .nil),(.pair TSpan tN),[false,false,false],F_58 N,false⟩ [] ⟨[(0,⟨[.tmp 5 tI,.var 2 [some tI,some tI]],rG 19 25,[],[],[]⟩)],[],[],[]⟩ [c11 N] N Tryz.func343
def c13:Ct:=ctA (.pair (.slice TTable) (.pair .bool .nil)) (.pair .bool .nil) (F_59 N) ⟨[(0,⟨[.tmp 5 tI],[6,7]++rG 11 22,[],[],[]⟩)],[],[],[]⟩ [c12 N] N Tryz.func322
def c14:Ct:=ctB (.pair TCell (.pair TArc .nil)) (.pair .bool .nil) (F_60 N) [c8 N,c13 N] N Tryz.func293
def c15:Ct:=ct ⟨(.pair TCell .nil),(.pair (.slice tI) .nil),[true],F_61 N,false⟩ [] ⟨[(0,⟨[.tmp 4 tI,.row 1 tI],rG 6 18,[],[],[]⟩)],[],[],[]⟩ [] N Tryz.func294
def c16:Ct:=ctA (.pair TCell .nil) (.pair .bool .nil) (F_62 N) ⟨[(0,⟨[.tmp 5 tI],[6,7]++rG 41 52,[],[],[]⟩),(2,⟨[.tmp 7 tI],[],[],[],[]⟩),(5,⟨[.tmp 9 tI],rG 99 14,[],[],[]⟩)],[],[],[]⟩ [c8 N,c7 N,c9 N,c14 N,c15 N] N Tryz.func239
def c17:Ct:=ctA (.pair TLibrary .nil) (.pair .bool .nil) (F_63 N) ⟨[(0,⟨[.tmp 3 tI],rG 4 33,[],[],[]⟩),(2,⟨[.tmp 4 tI],[],[],[],[]⟩)],[],[],[]⟩ [c16 N] N Tryz.func173
def c18:Ct:=ctA (.pair TLibrary (.pair TDesign .nil)) (.pair .bool .nil) (F_64 N) ⟨[(0,⟨[.tmp 6 tI],[7,8]++rG 13 50,[],[],[]⟩),(2,⟨[.tmp 8 tI],[],[],[],[]⟩),(4,⟨[.tmp 9 tI],rG 63 27,[],[],[]⟩)],[],[],[]⟩ [c8 N] N Tryz.func174
def c19:Ct:=ctA (.pair (.slice .str) .nil) (.pair .bool .nil) (F_65 N) ⟨[(0,⟨[.tmp 3 tI],rG 4 27,[],[],[]⟩),(2,⟨[.tmp 4 tI],[],[],[],[]⟩)],[],[],[]⟩ [c7 N] N Tryz.func175
def c20:Ct:=ctA (.pair TLibrary (.pair TDesign .nil)) (.pair .bool .nil) (F_66 N) ⟨[(0,⟨[.tmp 6 tI,.row 2 .str],rG 41 17,[],[],[]⟩),(2,⟨[.tmp 8 tI,.row 3 .str],rG 58 17,[],[],[]⟩),(4,⟨[.tmp 10 tI,.row 4 tI],[11]++rG 93 24,[],[],[]⟩),(6,⟨[.tmp 12 tI,.row 4 tI],rG 117 25,[],[],[]⟩),(8,⟨[.tmp 13 tI],rG 142 11,[],[],[]⟩)],[],[],[]⟩ [c17 N,c18 N,c19 N] N Tryz.func105
def c21:Ct:=ctA (.pair TWire tN) (.pair .bool .nil) (F_67 N) ⟨[(0,⟨[.tmp 6 tI],rG 38 54,[],[],[]⟩),(2,⟨[.tmp 7 tI],rG 92 16,[],[],[]⟩)],[],[],[]⟩ [c8 N] N Tryz.func106
def c22:Ct:=ctA (.pair TBlock .nil) (.pair .bool .nil) (F_68 N) ⟨[(0,⟨[.tmp 3 tI],rG 20 19,[],[],[]⟩)],[],[],[]⟩ [c20 N,c21 N,c4 N] N Tryz.func52
def c23:Ct:=ctA (.pair TDesign (.pair tI tN)) tN (F_69 N) ⟨[(0,⟨[.tmp 8 tI],rG 11 22,[],[],[]⟩)],[],[],[]⟩ [c3 N] N Tryz.func132
def c24:Ct:=ctA (.pair TDesign tN) tN (F_70 N) ⟨[(0,⟨[.tmp 6 tI],rG 9 20,[],[],[]⟩)],[],[],[]⟩ [c3 N] N Tryz.func133
def S_15(N:Nat):FnSpec:=⟨.pair TBlock .nil,(.pair (.slice TLink) .nil),[true],F_15 N,false⟩
theorem KI_131:CB 131:=cb Tryz.func131
def I_16:InF:=⟨131,Tryz.f131,⟨[(0,⟨[.tmp 11 tI,.row 1 TLink],rG 12 42,[],[],[]⟩),
 (2,⟨[.tmp 12 tI,.row 1 TLink],[],[],[],[]⟩)],[],[],[]⟩,[],true⟩
theorem KI_134:CB 134:=cb Tryz.func134
def I_17:InF:=⟨134,Tryz.f134,⟨[],[],[],[]⟩,[],true⟩
theorem Z_15(N:Nat):SN 65 (S_15 N):=snd ⟨es [c4 N,c23 N,c24 N],[],[I_16,I_17],[],[]⟩ ⟨[(0,⟨[.tmp 5 tI,.row 1 TLink],[6,7,12]++rG 15 54,[],[],[]⟩),(2,⟨[.tmp 7 tI,.row 1 TLink],[],[],[],[]⟩),(4,⟨[.tmp 8 tI,.row 1 TLink],[9,10,11]++rG 69 35,[],[],[]⟩),(6,⟨[.tmp 11 tI,.row 1 TLink],[],[],[],[]⟩)],[],[],[]⟩ N (ce _) Tryz.func65 (hi:=(q101 Tryz.func131 KI_131 (q101 Tryz.func134 KI_134 q323)))
def c25:Ct:=⟨(65,[]),S_15 N,Z_15 N,(cb Tryz.func65)⟩
def S_18(N:Nat):VioSpec:=⟨Tl01Source,(.pair TBlock .nil),(.pair (.slice tI) .nil),[],fun v x=>F_18 N (v,x),false⟩
theorem Z_18(N:Nat):VioOk Tryz.prog 113 (S_18 N):=sndV ⟨es [c22 N,c25 N],[],[],[],[(40,.vio (S_0 N))]⟩ ⟨[(0,⟨[.tmp 8 tI,.var 0 [some (.slice (.int .u8)),some tI,some tI],.row 3 tI],[9]++rG 28 13,[],[],[]⟩)],[],[],[]⟩ N (ce _) ((q21 (Z_0 N) K_0 q49)) Tryz.func113
def c26:Ct:=ctA (.pair (.slice tI) tN) (.pair .bool .nil) (F_71 N) ⟨[(0,⟨[.tmp 5 tI],rG 6 12,[],[],[]⟩)],[],[],[]⟩ [] N Tryz.func136
def c27:Ct:=ct ⟨(.pair (.slice TLink) (.pair (.slice tI) .nil)),(.pair (.slice .bool) .nil),[true],F_72 N,false⟩ [] ⟨[(0,⟨[.tmp 6 tI,.row 0 .bool],rG 7 14,[],[],[]⟩)],[],[],[]⟩ [c26 N] N Tryz.func67
def c28:Ct:=ctB (.pair TBlock .nil) tN (F_73 N) [c3 N] N Tryz.func49
def c29:Ct:=ct ⟨(.pair tI (.pair (.slice TLink) (.pair (.slice .bool) (.pair tI (.pair .bool .nil))))),(.pair (.slice .bool) .nil),[true],F_74 N,false⟩ [] ⟨[(0,⟨[.tmp 12 .bool,.row 0 .bool],[13,14,15]++rG 21 41,[],[],[]⟩),(2,⟨[.tmp 12 .bool,.tmp 13 tI,.row 0 .bool],[],[],[],[]⟩)],[],[],[]⟩ [] N Tryz.func244
def c30:Ct:=ctA (.pair (.slice TLink) (.pair (.slice .bool) tN)) (.pair .bool .nil) (F_75 N) ⟨[(0,⟨[.tmp 7 tI],rG 8 28,[],[],[]⟩)],[],[],[]⟩ [] N Tryz.func245
def S_19(N:Nat):FnSpec:=⟨.pair tI (.pair (.slice TLink) (.pair (.slice .bool) .nil)),(.pair (.slice (.slice tI)) .nil),[true],F_19 N,true⟩
theorem Z_19(N:Nat):SN 180 (S_19 N):=snd ⟨es [c29 N,c30 N],[1000014],[],[],[]⟩ ⟨[(0,⟨[.tmp 9 tI,.drow 0 (.slice tI),.row 1 .bool],rG 17 9++rG 10 5++rG 26 37++rG 67 5++[63,64,65,66],[],[],[]⟩),(2,⟨[.tmp 13 tI,.row 1 .bool,.row 4 tI],[36],[],[],[]⟩)],[],[],[]⟩ N (ce _) Tryz.func180
def c31:Ct:=⟨(180,[]),S_19 N,Z_19 N,(cb Tryz.func180)⟩
def c32:Ct:=ct ⟨(.pair TBlock .nil),(.pair (.slice tI) .nil),[true],F_76 N,false⟩ [] ⟨[(0,⟨[.row 3 .bool],[6,7,8]++rG 18 51,[],[],[]⟩),(2,⟨[.tmp 7 tI,.tmp 8 tI],[],[],[],[]⟩),(4,⟨[.tmp 10 tI,.row 5 tI],rG 69 16,[],[],[]⟩)],[(1000002,[(6,none)])],[],[]⟩ [c28 N,c25 N,c27 N,c26 N,c31 N] N Tryz.func114
def S_20(N:Nat):VioSpec:=⟨Tl01Source,(.pair TBlock .nil),(.pair (.slice TSource) .nil),[],fun v x=>F_20 N (v,x),false⟩
theorem Z_20(N:Nat):VioOk Tryz.prog 115 (S_20 N):=sndV ⟨es [c22 N,c3 N],[],[],[],[(40,.vio (S_0 N))]⟩ ⟨[(0,⟨[.tmp 7 tI,.var 0 [some (.slice (.int .u8)),some tI,some tI],.row 3 TSource],[8,9,10,11,13]++rG 21 59,[],[],[]⟩),(2,⟨[.tmp 9 tI,.var 0 [some (.slice (.int .u8)),some tI,some tI],.row 3 TSource],[],[],[],[]⟩)],[],[],[]⟩ N (ce _) ((q21 (Z_0 N) K_0 q49)) Tryz.func115
def S_21(N:Nat):VioSpec:=⟨Tl01Source,.nil,(.pair TBlock (.pair TCorner (.pair (.slice tI) (.pair (.slice TSource) .nil)))),[],fun v x=>F_21 N (v,x),false⟩
theorem Z_21(N:Nat):VioOk Tryz.prog 54 (S_21 N):=sndV ⟨es [c22 N,c32 N],[],[],[],[(40,.vio (S_0 N)),(110,.vio (S_13 N)),(111,.vio (S_14 N)),(112,.vio (S_11 N).data),(113,.vio (S_18 N)),(115,.vio (S_20 N))]⟩ ⟨[],[],[],[]⟩ N (ce _) ((q21 (Z_0 N) K_0 (q21 (Z_13 N) (cb Tryz.func110) (q21 (Z_14 N) (cb Tryz.func111) (q21 (Z_11 N).data K_11 (q21 (Z_18 N) (cb Tryz.func113) (q21 (Z_20 N) (cb Tryz.func115) q49))))))) Tryz.func54
def S_22(N:Nat):VioSpec:=⟨Tl01Source,.nil,(.pair TJob .nil),[],fun v x=>F_22 N (v,x),false⟩
theorem Z_22(N:Nat):VioOk Tryz.prog 137 (S_22 N):=sndV ⟨[],[],[],[],[(54,.vio (S_21 N))]⟩ ⟨[],[],[],[]⟩ N (q81) ((q21 (Z_21 N) (cb Tryz.func54) q49)) Tryz.func137
def c33:Ct:=ctA (.pair TCorner .nil) (.pair .bool .nil) (F_77 N) ⟨[(0,⟨[.tmp 4 tI],rG 14 12,[],[],[]⟩)],[],[],[]⟩ [c8 N,c7 N] N Tryz.func124
def c34:Ct:=ctA (.pair (.slice tI) tN) (.pair .bool .nil) (F_78 N) ⟨[(0,⟨[.tmp 5 tI],rG 6 30,[],[],[]⟩)],[],[],[]⟩ [c8 N] N Tryz.func205
def c35:Ct:=ctB (.pair TBlock (.pair (.slice tI) .nil)) tN (F_79 N) [c22 N,c25 N,c34 N] N Tryz.func128
def c36:Ct:=ctB (.pair TSpan .nil) (.pair .bool .nil) (F_80 N) [c8 N] N Tryz.func108
def c37:Ct:=ctB (.pair TSpan .nil) (.pair .bool .nil) (F_81 N) [] N Tryz.func109
def c38:Ct:=ctA (.pair TBlock (.pair (.slice TSource) .nil)) (.pair .bool .nil) (F_82 N) ⟨[(0,⟨[.tmp 6 tI],rG 9 51,[],[],[]⟩)],[],[],[]⟩ [c28 N,c8 N,c36 N,c37 N] N Tryz.func129
def c39:Ct:=ct ⟨(.pair tI (.pair (.slice TLink) (.pair (.slice .bool) .nil))),(.pair (.slice tI) (.pair .bool .nil)),[true,false],F_83 N,false⟩ [] ⟨[(0,⟨[.row 0 tI,.row 1 .bool],[10,11,12,13]++rG 16 54++rG 71 7,[],[],[]⟩),(2,⟨[.tmp 11 tI,.row 2 .bool],[],[],[],[]⟩),(4,⟨[.tmp 12 tI],[],[],[],[]⟩)],[],[],[]⟩ [] N Tryz.func147
def c40:Ct:=ct ⟨(.pair TBlock (.pair (.slice tI) .nil)),(.pair (.slice tI) tN),[true,false],F_84 N,false⟩ [] hnn [c28 N,c25 N,c27 N,c35 N,c39 N] N Tryz.func130
def c41:Ct:=ct ⟨(.pair TBlock (.pair TCorner (.pair (.slice tI) (.pair (.slice TSource) .nil)))),(.pair (.slice tI) tN),[true,false],F_85 N,false⟩ [] hnn [c22 N,c33 N,c35 N,c38 N,c40 N] N Tryz.func64
def c42:Ct:=ct ⟨tN,(.pair TTiming .nil),[true,true,true],F_86 N,false⟩ [] hnn [] N Tryz.func97
def c43:Ct:=ctB (.pair TLibrary (.pair TDesign (.pair Tl05Place .nil))) tN (F_87 N) [] N Tryz.func351
def c44:Ct:=ct ⟨(.pair TBlock tN),(.pair (.slice tI) .nil),[true],F_88 N,false⟩ [] ⟨[(0,⟨[.tmp 9 tI,.row 2 tI],rG 26 28,[],[],[]⟩),(2,⟨[.tmp 10 tI,.row 2 tI],rG 57 18,[],[],[]⟩)],[],[],[]⟩ [c3 N,c4 N,c6 N,c43 N] N Tryz.func331
def c45:Ct:=ct ⟨(.pair TBlock (.pair TLink .nil)),(.pair TArc tN),(rF 7),F_89 N,false⟩ [] hnn [c3 N,c44 N] N Tryz.func304
def c46:Ct:=ct ⟨(.pair (.slice tI) tN),(.pair tI (.pair tI tN)),[false,false,false],F_90 N,false⟩ [] ⟨[(0,⟨[.tmp 8 tI],rG 25 10++rG 36 6,[],[],[]⟩)],[],[],[]⟩ [] N Tryz.func332
def c47:Ct:=ctB (.pair tI (.pair tI tN)) tN (F_91 N) [] N Tryz.func308
def c48:Ct:=ctA (.pair TTable (.pair tI (.pair tI tN))) tN (F_92 N) ⟨[(0,⟨[.tmp 16 tI,.tmp 17 tI],[18,19]++rG 39 39,[],[],[]⟩),(2,⟨[.tmp 16 tI,.tmp 18 tI],[],[],[],[]⟩)],[],[],[]⟩ [c47 N,c46 N] N Tryz.func305
def c49:Ct:=ctB (.pair TCorner (.pair tI tN)) tN (F_93 N) [] N Tryz.func309
def c50:Ct:=ctB (.pair TBlock (.pair TLink .nil)) tN (F_94 N) [c3 N] N Tryz.func307
def c51:Ct:=ct ⟨(.pair TBlock tN),(.pair (.slice tI) .nil),[true],F_95 N,false⟩ [] ⟨[(0,⟨[.tmp 8 tI,.row 3 tI],rG 17 29,[],[],[]⟩)],[],[],[]⟩ [c44 N] N Tryz.func333
def c52:Ct:=ct ⟨(.pair TBlock (.pair tI tN)),(.pair (.slice tI) .nil),[true],F_96 N,false⟩ [] ⟨[(0,⟨[.tmp 9 tI,.row 2 tI],rG 13 29,[],[],[]⟩)],[],[],[]⟩ [c47 N,c51 N] N Tryz.func306
def c53:Ct:=ctB (.pair TBlock (.pair TCorner (.pair TLink (.pair tI tN)))) tN (F_97 N) [c45 N,c48 N,c52 N,c50 N,c47 N,c49 N] N Tryz.func264
def c54:Ct:=ctA (.pair tI tN) tN (F_98 N) ⟨[(0,⟨[.tmp 5 tI,.tmp 6 tI],rG 7 17,[],[],[]⟩)],[],[],[]⟩ [] N Tryz.func334
def c55:Ct:=ctB (.pair TBlock (.pair tI (.pair tI (.pair tI tN)))) tN (F_99 N) [c47 N,c51 N,c54 N] N Tryz.func310
def c56:Ct:=ctB (.pair TBlock (.pair TLink (.pair tI tN))) tN (F_100 N) [c45 N,c48 N,c50 N,c55 N] N Tryz.func265
def c57:Ct:=ct ⟨(.pair TBlock (.pair TCorner (.pair TLink (.pair TSpan .nil)))),(.pair TSpan (.pair TSpan .nil)),(rF 4),F_101 N,false⟩ [] hnn [c53 N,c56 N] N Tryz.func206
def c58:Ct:=ct ⟨(.pair TSpan (.pair TSpan .nil)),(.pair TSpan .nil),[false,false],F_102 N,false⟩ [] hnn [] N Tryz.func98
end
end Go.Proofs.YtcmhpcoiomdekaaGreatDoor
