/- The functions' contracts. Printed by my dec.py. No condition of its own. -/
import Derived.Test.YtcmhpcoiomdekaaGreatDoorPgL
import Derived.Test.YtcmhpcoiomdekaaGreatDoorPvF1
import Derived.Test.YtcmhpcoiomdekaaGreatDoorProg
import Derived.Test.YtcmhpcoiomdekaaGreatDoorPgG
namespace Go.Proofs.YtcmhpcoiomdekaaGreatDoor
abbrev tI:Ty:=.int .i64
abbrev tN:Ty:=.pair tI .nil
abbrev rG:=List.range'
open Go.RowKit
set_option maxRecDepth 100000
set_option linter.unusedVariables false
abbrev CB(f:FuncId):Prop:=q18 Tryz.prog f
theorem cb{f : FuncId}{fn : Func}(h : Tryz.prog.funcs[f]? = some fn)(h1 : fn.body.isNone = false := by kernel_rfl)(h2 : (fn.name == "runtime.NumGoroutine") = false := by kernel_rfl) : CB f := ⟨_, h, h1, h2⟩
abbrev SN(f:FuncId)(S:FnSpec):Prop:=Sound Tryz.prog PRE f S
theorem snd(C:Ctx)(H:Hints)(N:Nat){f:FuncId}{fn:Func}{S:FnSpec}(hc:∀ p∈C.fns,Sound Tryz.prog PRE p.1.1 p.2/\q18 Tryz.prog p.1.1)(hf:Tryz.prog.funcs[f]?=some fn)(hm:Tryz.prog.follows .mixedOrders=true:=by kernel_rfl)(hp:q90 S.ps=true:=by kernel_rfl)
 (h:∀ x,pevFn Tryz.prog C N H S fn x=S.fn x:=by intro x; kernel_rfl) (hi:∀ x∈C.inl,Tryz.prog.funcs[x.fid]?=some x.fn/\q18 Tryz.prog x.fid:=by intro x hx; cases hx) (ht:∀ w,PRE w->TabsAt C.tabs w:=by exact fun w _=>q218 w) (hio:∀ p∈C.io,HookOk Tryz.prog p.1 p.2/\q18 Tryz.prog p.1:=by intro p hp; cases hp):SN f S:=
 q507 (C:=C) (H:=H) (N:=N) (q297 q304 hm hc hi ht hio) hf hp (fun x r k=>(h x).trans k)
theorem sndX(C:Ctx)(L:MarkL)(H:Hints)(N:Nat){f:FuncId}{fn:Func}{S:FnSpec}(hc:∀ p∈C.fns,Sound Tryz.prog PRE p.1.1 p.2/\q18 Tryz.prog p.1.1)(hL:∀ p∈L,MarkOk Tryz.prog p.1 p.2/\q18 Tryz.prog p.1)(hio:∀ p∈C.io,HookOk Tryz.prog p.1 p.2/\q18 Tryz.prog p.1)(hf:Tryz.prog.funcs[f]?=some fn)(hm:Tryz.prog.follows .mixedOrders=true:=by kernel_rfl)(hp:q90 S.ps=true:=by kernel_rfl)
 (h:∀ x,pevFnX Tryz.prog C L N H S fn x=S.fn x:=by intro x; kernel_rfl) (hi:∀ x∈C.inl,Tryz.prog.funcs[x.fid]?=some x.fn/\q18 Tryz.prog x.fid:=by intro x hx; cases hx) (ht:∀ w,PRE w->TabsAt C.tabs w:=by exact fun w _=>q218 w):SN f S:=
 q475 (C:=C) (H:=H) (N:=N) (L:=L) (q297 q304 hm hc hi ht hio) hL hf hp (fun x r k=>(h x).trans k)
theorem sndV(C:Ctx)(L:MarkL)(H:Hints)(N:Nat){f:FuncId}{fn:Func}{S:VioSpec}(hc:∀ p∈C.fns,Sound Tryz.prog PRE p.1.1 p.2/\q18 Tryz.prog p.1.1)(hL:∀ p∈L,MarkOk Tryz.prog p.1 p.2/\q18 Tryz.prog p.1)(hio:∀ p∈C.io,HookOk Tryz.prog p.1 p.2/\q18 Tryz.prog p.1)(hf:Tryz.prog.funcs[f]?=some fn)(hm:Tryz.prog.follows .mixedOrders=true:=by kernel_rfl)
 (h:∀ v x,pevFnV Tryz.prog C L N H S fn v x=S.fn v x:=by intro v x; kernel_rfl) (hi:∀ x∈C.inl,Tryz.prog.funcs[x.fid]?=some x.fn/\q18 Tryz.prog x.fid:=by intro x hx; cases hx) (ht:∀ w,PRE w->TabsAt C.tabs w:=by exact fun w _=>q218 w) (hT:∀ w,PRE w:=by exact fun _=>trivial):VioOk Tryz.prog f S:=
 q659 (C:=C) (H:=H) (N:=N) (L:=L) (q297 q304 hm hc hi ht hio) hT hL hf (fun v x r k=>(h v x).trans k)
def S_0(N:Nat):FnSpec:=⟨.pair (.slice (.int .u8)) .nil,(.pair .bool .nil),[false],F_0 N,false⟩
theorem Z_0(N:Nat):SN 7 (S_0 N):=snd ⟨[],[],[],[],[]⟩ ⟨[],[],[],[]⟩ N q9 Tryz.func7
def S_1(N:Nat):VioSpec:=⟨Tl01Source,tN,tN,[],fun v x=>F_1 N (v,x),false⟩
theorem K_1:CB 40:=cb Tryz.func40
noncomputable def L_1(N:Nat):MarkL:=[]
theorem Z_1(N:Nat):VioOk Tryz.prog 40 (S_1 N):=sndV ⟨[],[],[],[],[]⟩ (L_1 N) ⟨[],[],[],[]⟩ N (q9) (q32) (q52) Tryz.func40
def S_2(N:Nat):FnSpec:=⟨.pair TCell tN,tN,[false],F_2 N,false⟩
theorem Z_2(N:Nat):SN 295 (S_2 N):=snd ⟨[],[],[],[],[]⟩ ⟨[(0,⟨[.tmp 8 tI,.tmp 5 .bool,.tmp 6 .bool],rG 12 43,[],[],[]⟩)],[],[],[]⟩ N q9 Tryz.func295
def S_3(N:Nat):VioSpec:=⟨Tl01Source,tN,(.pair (.slice tI) .nil),[],fun v x=>F_3 N (v,x),false⟩
noncomputable def L_3(N:Nat):MarkL:=[]
theorem Z_3(N:Nat):VioOk Tryz.prog 360 (S_3 N):=sndV ⟨[],[],[],[],[(40,.vio (S_1 N))]⟩ (L_3 N) ⟨[(0,⟨[.tmp 6 tI,.tmp 7 tI,.var 0 [some (.slice (.int .u8)),some tI,some tI],.row 2 tI],[8]++rG 15 14,[],[],[]⟩)],[],[],[]⟩ N (q9) (q32) ((q23 (Z_1 N) K_1 q52)) Tryz.func360
def S_4(N:Nat):VioSpec:=⟨Tl01Source,tN,(.pair TTable .nil),[],fun v x=>F_4 N (v,x),false⟩
noncomputable def L_4(N:Nat):MarkL:=[]
theorem Z_4(N:Nat):VioOk Tryz.prog 344 (S_4 N):=sndV ⟨[],[],[],[],[(40,.vio (S_1 N)),(360,.vio (S_3 N))]⟩ (L_4 N) ⟨[(0,⟨[.tmp 9 tI,.var 0 [some (.slice (.int .u8)),some tI,some tI],.row 3 tI],[10,15]++rG 18 44,[],[],[]⟩)],[],[],[]⟩ N (q9) (q32) ((q23 (Z_1 N) K_1 (q23 (Z_3 N) (cb Tryz.func360) q52))) Tryz.func344
def S_5(N:Nat):VioSpec:=⟨Tl01Source,tN,(.pair (.slice TTable) .nil),[],fun v x=>F_5 N (v,x),false⟩
noncomputable def L_5(N:Nat):MarkL:=[]
theorem Z_5(N:Nat):VioOk Tryz.prog 323 (S_5 N):=sndV ⟨[],[],[],[],[(344,.vio (S_4 N))]⟩ (L_5 N) ⟨[],[],[],[]⟩ N (q9) (q32) ((q23 (Z_4 N) (cb Tryz.func344) q52)) Tryz.func323
def S_6(N:Nat):VioSpec:=⟨Tl01Source,(.pair tI (.pair tI (.pair tI tN))),(.pair TArc .nil),[],fun v x=>F_6 N (v,x),false⟩
theorem K_6:CB 296:=cb Tryz.func296
noncomputable def L_6(N:Nat):MarkL:=[]
theorem Z_6(N:Nat):VioOk Tryz.prog 296 (S_6 N):=sndV ⟨[],[],[],[],[(40,.vio (S_1 N)),(323,.vio (S_5 N))]⟩ (L_6 N) ⟨[],[],[],[]⟩ N (q9) (q32) ((q23 (Z_1 N) K_1 (q23 (Z_5 N) (cb Tryz.func323) q52))) Tryz.func296
def S_7(N:Nat):VioSpec:=⟨Tl01Source,(.pair .str (.pair (.slice tI) .nil)),(.pair TCell .nil),[],fun v x=>F_7 N (v,x),false⟩
noncomputable def L_7(N:Nat):MarkL:=[]
theorem Z_7(N:Nat):VioOk Tryz.prog 241 (S_7 N):=sndV ⟨[((295,[]),S_2 N)],[],[],[],[(40,.vio (S_1 N)),(296,.vio (S_6 N))]⟩ (L_7 N) ⟨[(0,⟨[.tmp 10 tI,.var 0 [some (.slice (.int .u8)),some tI,some tI],.row 5 TPin],rG 23 19,[],[],[]⟩),(2,⟨[.tmp 13 tI,.var 0 [some (.slice (.int .u8)),some tI,some tI],.row 7 TArc],[14]++rG 49 19,[],[],[]⟩)],[],[],[]⟩ N ((q7 (Z_2 N) (cb Tryz.func295) q9)) (q32) ((q23 (Z_1 N) K_1 (q23 (Z_6 N) K_6 q52))) Tryz.func241
def S_8(N:Nat):VioSpec:=⟨Tl01Source,(.pair .str (.pair tI tN)),(.pair TCell .nil),[],fun v x=>F_8 N (v,x),false⟩
noncomputable def L_8(N:Nat):MarkL:=[]
theorem Z_8(N:Nat):VioOk Tryz.prog 242 (S_8 N):=sndV ⟨[],[],[],[],[(40,.vio (S_1 N)),(296,.vio (S_6 N))]⟩ (L_8 N) ⟨[],[],[],[]⟩ N (q9) (q32) ((q23 (Z_1 N) K_1 (q23 (Z_6 N) K_6 q52))) Tryz.func242
def S_9(N:Nat):VioSpec:=⟨Tl01Source,.nil,(.pair TLibrary .nil),[],fun v x=>F_9 N (v,x),false⟩
noncomputable def L_9(N:Nat):MarkL:=[]
theorem Z_9(N:Nat):VioOk Tryz.prog 177 (S_9 N):=sndV ⟨[],[14,17,20,23,26],[],[],[(241,.vio (S_7 N)),(242,.vio (S_8 N))]⟩ (L_9 N) ⟨[],[],[],[]⟩ N (q9) (q32) ((q23 (Z_7 N) (cb Tryz.func241) (q23 (Z_8 N) (cb Tryz.func242) q52))) Tryz.func177
def S_10(N M:Nat):FnSpec:=⟨tN,(.pair .str .nil),[false],F_10 N M,false⟩
noncomputable def C_10(N M:Nat):Ctx:=⟨[((93,[]),S_10 N M)],[],[],[],[]⟩
theorem K_10:CB 93:=cb Tryz.func93
theorem Z_10(N:Nat):∀ M,SN 93 (S_10 N M)
 | 0=>fun w args x r ok _ _ _ h=>nomatch (show none=some r from h)
 | M+1=>snd (C_10 N M) ⟨[],[],[],[]⟩ N (q7 (Z_10 N M) K_10 q9) Tryz.func93
def S_11(N:Nat):VioSpec:=⟨Tl01Source,(.pair tI (.pair .bool .nil)),(.pair TDesign .nil),[true,true,true],fun v x=>F_11 N (v,x),true⟩
noncomputable def L_11(N:Nat):MarkL:=[]
theorem Z_11(N:Nat):VioOk Tryz.prog 178 (S_11 N):=sndV ⟨[((93,[]),S_10 N N)],[1000026],[],[],[(40,.vio (S_1 N))]⟩ (L_11 N) ⟨[(0,⟨[.tmp 11 tI,.var 0 [some (.slice (.int .u8)),some tI,some tI],.drow 7 TInstance,.row 8 .str],[12,13,14,15,26,30]++rG 36 70,[],[],[]⟩),(2,⟨[.tmp 14 tI,.var 0 [some (.slice (.int .u8)),some tI,some tI],.var 10 [some .str,some tI,none],.row 11 tI],[],[],[(10,2,tI),(10,2,tI),(10,2,tI),(10,2,tI),(10,2,tI),(10,2,tI)],[(10,2,11)]⟩),(4,⟨[.tmp 16 tI,.var 0 [some (.slice (.int .u8)),some tI,some tI],.drow 7 TInstance],rG 106 17++[129,130]++rG 132 14++rG 123 6++[131],[],[],[]⟩)],[],[],[]⟩ N ((q7 (Z_10 N N) K_10 q9)) (q32) ((q23 (Z_1 N) K_1 q52)) Tryz.func178
def S_12(N:Nat):FnSpec:=⟨.pair TDesign .nil,(.pair (.slice Tl05Place) .nil),[true],F_12 N,false⟩
theorem K_12:CB 99:=cb Tryz.func99
theorem Z_12(N:Nat):SN 99 (S_12 N):=snd ⟨[],[],[],[],[]⟩ ⟨[(0,⟨[.tmp 4 tI,.row 1 Tl05Place],[5,6]++rG 8 35,[],[],[]⟩),(2,⟨[.tmp 6 tI,.row 1 Tl05Place],[],[],[],[]⟩),(4,⟨[.tmp 7 tI,.row 1 Tl05Place],rG 43 25,[],[],[]⟩)],[],[],[]⟩ N q9 Tryz.func99
def S_13(N:Nat):FnSpec:=⟨.pair TDesign tN,(.pair (.slice tI) .nil),[true],F_13 N,false⟩
theorem K_13:CB 107:=cb Tryz.func107
theorem Z_13(N:Nat):SN 107 (S_13 N):=snd ⟨[((99,[]),S_12 N)],[],[],[],[]⟩ ⟨[(0,⟨[.tmp 7 tI,.row 1 tI],[8]++rG 11 25,[],[],[]⟩)],[],[],[]⟩ N ((q7 (Z_12 N) K_12 q9)) Tryz.func107
def S_14(N:Nat):FnSpec:=⟨.pair tI tN,(.pair TWire .nil),[true,true,true,true],F_14 N,false⟩
theorem Z_14(N:Nat):SN 243 (S_14 N):=snd ⟨[],[],[],[],[]⟩ ⟨[],[],[],[]⟩ N q9 Tryz.func243
def S_15(N:Nat):FnSpec:=⟨.pair (.slice tI) .nil,(.pair (.slice tI) .nil),[true],F_15 N,false⟩
theorem K_15:CB 240:=cb Tryz.func240
theorem Z_15(N:Nat):SN 240 (S_15 N):=snd ⟨[],[],[],[],[]⟩ ⟨[],[],[],[]⟩ N q9 Tryz.func240
def S_16(N:Nat):VioSpec:=⟨Tl01Source,tN,(.pair TWire .nil),[true,true,true,true],fun v x=>F_16 N (v,x),true⟩
noncomputable def L_16(N:Nat):MarkL:=[]
theorem Z_16(N:Nat):VioOk Tryz.prog 179 (S_16 N):=sndV ⟨[((240,[]),S_15 N),((243,[]),S_14 N)],[],[],[],[(40,.vio (S_1 N))]⟩ (L_16 N) ⟨[(0,⟨[.tmp 6 tI,.var 0 [some (.slice (.int .u8)),some tI,some tI],.row 3 tI,.row 4 tI,.row 5 tI,.var 7 [none,none,none,none]],[7]++rG 15 32++[12],[],[],[(7,0,3),(7,1,4),(7,2,5)]⟩),(2,⟨[.tmp 8 tI,.var 0 [some (.slice (.int .u8)),some tI,some tI],.row 6 tI],rG 47 16,[],[],[]⟩)],[],[],[]⟩ N ((q7 (Z_15 N) K_15 (q7 (Z_14 N) (cb Tryz.func243) q9))) (q32) ((q23 (Z_1 N) K_1 q52)) Tryz.func179
def S_17(N:Nat):VioSpec:=⟨Tl01Source,(.pair tI (.pair .bool .nil)),(.pair TBlock .nil),[false,true,true,true,true],fun v x=>F_17 N (v,x),true⟩
theorem K_17:CB 112:=cb Tryz.func112
noncomputable def L_17(N:Nat):MarkL:=[]
theorem Z_17(N:Nat):VioOk Tryz.prog 112 (S_17 N):=sndV ⟨[((107,[]),S_13 N)],[1000017],[],[],[(177,.vio (S_9 N)),(178,.vio (S_11 N)),(179,.vio (S_16 N))]⟩ (L_17 N) ⟨[(0,⟨[.tmp 10 tI,.var 0 [some (.slice (.int .u8)),some tI,some tI],.drow 8 TWire],rG 17 17,[],[],[]⟩)],[],[],[]⟩ N ((q7 (Z_13 N) K_13 q9)) (q32) ((q23 (Z_9 N) (cb Tryz.func177) (q23 (Z_11 N) (cb Tryz.func178) (q23 (Z_16 N) (cb Tryz.func179) q52)))) Tryz.func112
def S_18(N:Nat):VioSpec:=⟨Tl01Source,.nil,(.pair TBlock .nil),[false,true,true,true,false],fun v x=>F_18 N (v,x),true⟩
noncomputable def L_18(N:Nat):MarkL:=[]
theorem Z_18(N:Nat):VioOk Tryz.prog 176 (S_18 N):=sndV ⟨[((240,[]),S_15 N)],[],[],[],[(40,.vio (S_1 N)),(112,.vio (S_17 N))]⟩ (L_18 N) ⟨[],[(5,[(12,none)])],[],[]⟩ N ((q7 (Z_15 N) K_15 q9)) (q32) ((q23 (Z_1 N) K_1 (q23 (Z_17 N) K_17 q52))) Tryz.func176
def S_19(N:Nat):VioSpec:=⟨Tl01Source,.nil,(.pair TBlock .nil),[],fun v x=>F_19 N (v,x),false⟩
noncomputable def L_19(N:Nat):MarkL:=[]
theorem Z_19(N:Nat):VioOk Tryz.prog 110 (S_19 N):=sndV ⟨[],[],[],[],[(40,.vio (S_1 N)),(112,.vio (S_17 N)),(176,.vio (S_18 N))]⟩ (L_19 N) ⟨[],[],[],[]⟩ N (q9) (q32) ((q23 (Z_1 N) K_1 (q23 (Z_17 N) K_17 (q23 (Z_18 N) (cb Tryz.func176) q52)))) Tryz.func110
def S_20(N:Nat):VioSpec:=⟨Tl01Source,.nil,(.pair TCorner .nil),[],fun v x=>F_20 N (v,x),false⟩
noncomputable def L_20(N:Nat):MarkL:=[]
theorem Z_20(N:Nat):VioOk Tryz.prog 111 (S_20 N):=sndV ⟨[],[],[],[],[(40,.vio (S_1 N))]⟩ (L_20 N) ⟨[],[],[],[]⟩ N (q9) (q32) ((q23 (Z_1 N) K_1 q52)) Tryz.func111
def S_21(N:Nat):FnSpec:=⟨.pair .str .nil,(.pair .bool .nil),[false],F_21 N,false⟩
theorem K_21:CB 196:=cb Tryz.func196
theorem Z_21(N:Nat):SN 196 (S_21 N):=snd ⟨[],[],[],[],[]⟩ ⟨[(0,⟨[.tmp 3 tI],rG 4 38,[],[],[]⟩)],[],[],[]⟩ N q9 Tryz.func196
def S_22(N:Nat):FnSpec:=⟨.pair tI (.pair tI tN),(.pair .bool .nil),[false],F_22 N,false⟩
theorem K_22:CB 77:=cb Tryz.func77
theorem Z_22(N:Nat):SN 77 (S_22 N):=snd ⟨[],[],[],[],[]⟩ ⟨[],[],[],[]⟩ N q9 Tryz.func77
def S_23(N:Nat):FnSpec:=⟨.pair TCell .nil,(.pair tI (.pair .bool .nil)),[false,false],F_23 N,false⟩
theorem Z_23(N:Nat):SN 292 (S_23 N):=snd ⟨[((77,[]),S_22 N),((196,[]),S_21 N)],[],[],[],[]⟩ ⟨[(0,⟨[.tmp 5 tI,.tmp 6 tI],[7,8]++rG 18 67,[],[],[]⟩),(2,⟨[.tmp 8 tI],[],[],[],[]⟩)],[],[],[]⟩ N ((q7 (Z_22 N) K_22 (q7 (Z_21 N) K_21 q9))) Tryz.func292
def S_24(N:Nat):FnSpec:=⟨.pair (.slice tI) .nil,(.pair .bool .nil),[false],F_24 N,false⟩
theorem Z_24(N:Nat):SN 369 (S_24 N):=snd ⟨[((77,[]),S_22 N)],[],[],[],[]⟩ ⟨[(0,⟨[.tmp 3 tI],rG 4 28,[],[],[]⟩)],[],[],[]⟩ N ((q7 (Z_22 N) K_22 q9)) Tryz.func369
def S_25(N:Nat):FnSpec:=⟨.pair TTable .nil,(.pair .bool .nil),[false],F_25 N,false⟩
theorem Z_25(N:Nat):SN 359 (S_25 N):=snd ⟨[((77,[]),S_22 N),((369,[]),S_24 N)],[],[],[],[]⟩ ⟨[(0,⟨[.tmp 3 tI],rG 27 14,[],[],[]⟩)],[],[],[]⟩ N ((q7 (Z_22 N) K_22 (q7 (Z_24 N) (cb Tryz.func369) q9))) Tryz.func359
def S_26(N:Nat):FnSpec:=⟨.pair TTable .nil,(.pair TSpan tN),[false,false,false],F_26 N,false⟩
theorem Z_26(N:Nat):SN 343 (S_26 N):=snd ⟨[((359,[]),S_25 N)],[],[],[],[]⟩ ⟨[(0,⟨[.tmp 5 tI,.var 2 [some tI,some tI]],rG 19 25,[],[],[]⟩)],[],[],[]⟩ N ((q7 (Z_25 N) (cb Tryz.func359) q9)) Tryz.func343
def S_27(N:Nat):FnSpec:=⟨.pair (.slice TTable) (.pair .bool .nil),(.pair .bool .nil),[false],F_27 N,false⟩
theorem Z_27(N:Nat):SN 322 (S_27 N):=snd ⟨[((343,[]),S_26 N)],[],[],[],[]⟩ ⟨[(0,⟨[.tmp 5 tI],[6,7]++rG 11 22,[],[],[]⟩)],[],[],[]⟩ N ((q7 (Z_26 N) (cb Tryz.func343) q9)) Tryz.func322
def S_28(N:Nat):FnSpec:=⟨.pair TCell (.pair TArc .nil),(.pair .bool .nil),[false],F_28 N,false⟩
theorem Z_28(N:Nat):SN 293 (S_28 N):=snd ⟨[((77,[]),S_22 N),((322,[]),S_27 N)],[],[],[],[]⟩ ⟨[],[],[],[]⟩ N ((q7 (Z_22 N) K_22 (q7 (Z_27 N) (cb Tryz.func322) q9))) Tryz.func293
def S_29(N:Nat):FnSpec:=⟨.pair TCell .nil,(.pair (.slice tI) .nil),[true],F_29 N,false⟩
theorem Z_29(N:Nat):SN 294 (S_29 N):=snd ⟨[],[],[],[],[]⟩ ⟨[(0,⟨[.tmp 4 tI,.row 1 tI],rG 6 18,[],[],[]⟩)],[],[],[]⟩ N q9 Tryz.func294
def S_30(N:Nat):FnSpec:=⟨.pair TCell .nil,(.pair .bool .nil),[false],F_30 N,false⟩
theorem Z_30(N:Nat):SN 239 (S_30 N):=snd ⟨[((77,[]),S_22 N),((196,[]),S_21 N),((292,[]),S_23 N),((293,[]),S_28 N),((294,[]),S_29 N)],[],[],[],[]⟩ ⟨[(0,⟨[.tmp 5 tI],[6,7]++rG 41 52,[],[],[]⟩),(2,⟨[.tmp 7 tI],[],[],[],[]⟩),(5,⟨[.tmp 9 tI],rG 99 14,[],[],[]⟩)],[],[],[]⟩ N ((q7 (Z_22 N) K_22 (q7 (Z_21 N) K_21 (q7 (Z_23 N) (cb Tryz.func292) (q7 (Z_28 N) (cb Tryz.func293) (q7 (Z_29 N) (cb Tryz.func294) q9)))))) Tryz.func239
def S_31(N:Nat):FnSpec:=⟨.pair TLibrary .nil,(.pair .bool .nil),[false],F_31 N,false⟩
theorem Z_31(N:Nat):SN 173 (S_31 N):=snd ⟨[((239,[]),S_30 N)],[],[],[],[]⟩ ⟨[(0,⟨[.tmp 3 tI],rG 4 33,[],[],[]⟩),(2,⟨[.tmp 4 tI],[],[],[],[]⟩)],[],[],[]⟩ N ((q7 (Z_30 N) (cb Tryz.func239) q9)) Tryz.func173
def S_32(N:Nat):FnSpec:=⟨.pair TLibrary (.pair TDesign .nil),(.pair .bool .nil),[false],F_32 N,false⟩
theorem Z_32(N:Nat):SN 174 (S_32 N):=snd ⟨[((77,[]),S_22 N)],[],[],[],[]⟩ ⟨[(0,⟨[.tmp 6 tI],[7,8]++rG 13 50,[],[],[]⟩),(2,⟨[.tmp 8 tI],[],[],[],[]⟩),(4,⟨[.tmp 9 tI],rG 63 27,[],[],[]⟩)],[],[],[]⟩ N ((q7 (Z_22 N) K_22 q9)) Tryz.func174
def S_33(N:Nat):FnSpec:=⟨.pair (.slice .str) .nil,(.pair .bool .nil),[false],F_33 N,false⟩
theorem Z_33(N:Nat):SN 175 (S_33 N):=snd ⟨[((196,[]),S_21 N)],[],[],[],[]⟩ ⟨[(0,⟨[.tmp 3 tI],rG 4 27,[],[],[]⟩),(2,⟨[.tmp 4 tI],[],[],[],[]⟩)],[],[],[]⟩ N ((q7 (Z_21 N) K_21 q9)) Tryz.func175
def S_34(N:Nat):FnSpec:=⟨.pair TLibrary (.pair TDesign .nil),(.pair .bool .nil),[false],F_34 N,false⟩
theorem Z_34(N:Nat):SN 105 (S_34 N):=snd ⟨[((173,[]),S_31 N),((174,[]),S_32 N),((175,[]),S_33 N)],[],[],[],[]⟩ ⟨[(0,⟨[.tmp 6 tI,.row 2 .str],rG 41 17,[],[],[]⟩),(2,⟨[.tmp 8 tI,.row 3 .str],rG 58 17,[],[],[]⟩),(4,⟨[.tmp 10 tI,.row 4 tI],[11]++rG 93 24,[],[],[]⟩),(6,⟨[.tmp 12 tI,.row 4 tI],rG 117 25,[],[],[]⟩),(8,⟨[.tmp 13 tI],rG 142 11,[],[],[]⟩)],[],[],[]⟩ N ((q7 (Z_31 N) (cb Tryz.func173) (q7 (Z_32 N) (cb Tryz.func174) (q7 (Z_33 N) (cb Tryz.func175) q9)))) Tryz.func105
def S_35(N:Nat):FnSpec:=⟨.pair TWire tN,(.pair .bool .nil),[false],F_35 N,false⟩
theorem Z_35(N:Nat):SN 106 (S_35 N):=snd ⟨[((77,[]),S_22 N)],[],[],[],[]⟩ ⟨[(0,⟨[.tmp 6 tI],rG 38 54,[],[],[]⟩),(2,⟨[.tmp 7 tI],rG 92 16,[],[],[]⟩)],[],[],[]⟩ N ((q7 (Z_22 N) K_22 q9)) Tryz.func106
def S_36(N:Nat):FnSpec:=⟨.pair TBlock .nil,(.pair .bool .nil),[false],F_36 N,false⟩
theorem K_36:CB 52:=cb Tryz.func52
theorem Z_36(N:Nat):SN 52 (S_36 N):=snd ⟨[((105,[]),S_34 N),((106,[]),S_35 N),((107,[]),S_13 N)],[],[],[],[]⟩ ⟨[(0,⟨[.tmp 3 tI],rG 20 19,[],[],[]⟩)],[],[],[]⟩ N ((q7 (Z_34 N) (cb Tryz.func105) (q7 (Z_35 N) (cb Tryz.func106) (q7 (Z_13 N) K_13 q9)))) Tryz.func52
def S_37(N:Nat):FnSpec:=⟨.pair TDesign (.pair tI tN),tN,[false],F_37 N,false⟩
theorem Z_37(N:Nat):SN 132 (S_37 N):=snd ⟨[((99,[]),S_12 N)],[],[],[],[]⟩ ⟨[(0,⟨[.tmp 8 tI],rG 11 22,[],[],[]⟩)],[],[],[]⟩ N ((q7 (Z_12 N) K_12 q9)) Tryz.func132
def S_38(N:Nat):FnSpec:=⟨.pair TDesign tN,tN,[false],F_38 N,false⟩
theorem Z_38(N:Nat):SN 133 (S_38 N):=snd ⟨[((99,[]),S_12 N)],[],[],[],[]⟩ ⟨[(0,⟨[.tmp 6 tI],rG 9 20,[],[],[]⟩)],[],[],[]⟩ N ((q7 (Z_12 N) K_12 q9)) Tryz.func133
def S_39(N:Nat):FnSpec:=⟨.pair TBlock .nil,(.pair (.slice TLink) .nil),[true],F_39 N,false⟩
theorem KI_131:CB 131:=cb Tryz.func131
noncomputable def I_40:InF:=⟨131,Tryz.f131,⟨[(0,⟨[.tmp 11 tI,.row 1 TLink],rG 12 42,[],[],[]⟩),
 (2,⟨[.tmp 12 tI,.row 1 TLink],[],[],[],[]⟩)],[],[],[]⟩,[],true⟩
theorem KI_134:CB 134:=cb Tryz.func134
noncomputable def I_41:InF:=⟨134,Tryz.f134,⟨[],[],[],[]⟩,[],true⟩
theorem K_39:CB 65:=cb Tryz.func65
theorem Z_39(N:Nat):SN 65 (S_39 N):=snd ⟨[((107,[]),S_13 N),((132,[]),S_37 N),((133,[]),S_38 N)],[],[I_40,I_41],[],[]⟩ ⟨[(0,⟨[.tmp 5 tI,.row 1 TLink],[6,7,12]++rG 15 54,[],[],[]⟩),(2,⟨[.tmp 7 tI,.row 1 TLink],[],[],[],[]⟩),(4,⟨[.tmp 8 tI,.row 1 TLink],[9,10,11]++rG 69 35,[],[],[]⟩),(6,⟨[.tmp 11 tI,.row 1 TLink],[],[],[],[]⟩)],[],[],[]⟩ N ((q7 (Z_13 N) K_13 (q7 (Z_37 N) (cb Tryz.func132) (q7 (Z_38 N) (cb Tryz.func133) q9)))) Tryz.func65 (hi:=(q214 Tryz.func131 KI_131 (q214 Tryz.func134 KI_134 q362)))
def S_42(N:Nat):VioSpec:=⟨Tl01Source,(.pair TBlock .nil),(.pair (.slice tI) .nil),[],fun v x=>F_42 N (v,x),false⟩
noncomputable def L_42(N:Nat):MarkL:=[]
theorem Z_42(N:Nat):VioOk Tryz.prog 113 (S_42 N):=sndV ⟨[((52,[]),S_36 N),((65,[]),S_39 N)],[],[],[],[(40,.vio (S_1 N))]⟩ (L_42 N) ⟨[(0,⟨[.tmp 8 tI,.var 0 [some (.slice (.int .u8)),some tI,some tI],.row 3 tI],[9]++rG 28 13,[],[],[]⟩)],[],[],[]⟩ N ((q7 (Z_36 N) K_36 (q7 (Z_39 N) K_39 q9))) (q32) ((q23 (Z_1 N) K_1 q52)) Tryz.func113
def S_43(N:Nat):FnSpec:=⟨.pair (.slice tI) tN,(.pair .bool .nil),[false],F_43 N,false⟩
theorem K_43:CB 136:=cb Tryz.func136
theorem Z_43(N:Nat):SN 136 (S_43 N):=snd ⟨[],[],[],[],[]⟩ ⟨[(0,⟨[.tmp 5 tI],rG 6 12,[],[],[]⟩)],[],[],[]⟩ N q9 Tryz.func136
def S_44(N:Nat):FnSpec:=⟨.pair (.slice TLink) (.pair (.slice tI) .nil),(.pair (.slice .bool) .nil),[true],F_44 N,false⟩
theorem K_44:CB 67:=cb Tryz.func67
theorem Z_44(N:Nat):SN 67 (S_44 N):=snd ⟨[((136,[]),S_43 N)],[],[],[],[]⟩ ⟨[(0,⟨[.tmp 6 tI,.row 0 .bool],rG 7 14,[],[],[]⟩)],[],[],[]⟩ N ((q7 (Z_43 N) K_43 q9)) Tryz.func67
def S_45(N:Nat):FnSpec:=⟨.pair TBlock .nil,tN,[false],F_45 N,false⟩
theorem K_45:CB 49:=cb Tryz.func49
theorem Z_45(N:Nat):SN 49 (S_45 N):=snd ⟨[((99,[]),S_12 N)],[],[],[],[]⟩ ⟨[],[],[],[]⟩ N ((q7 (Z_12 N) K_12 q9)) Tryz.func49
def S_46(N:Nat):FnSpec:=⟨.pair tI (.pair (.slice TLink) (.pair (.slice .bool) (.pair tI (.pair .bool .nil)))),(.pair (.slice .bool) .nil),[true],F_46 N,false⟩
theorem Z_46(N:Nat):SN 244 (S_46 N):=snd ⟨[],[],[],[],[]⟩ ⟨[(0,⟨[.tmp 12 .bool,.row 0 .bool],[13,14,15]++rG 21 41,[],[],[]⟩),(2,⟨[.tmp 12 .bool,.tmp 13 tI,.row 0 .bool],[],[],[],[]⟩)],[],[],[]⟩ N q9 Tryz.func244
def S_47(N:Nat):FnSpec:=⟨.pair (.slice TLink) (.pair (.slice .bool) tN),(.pair .bool .nil),[false],F_47 N,false⟩
theorem Z_47(N:Nat):SN 245 (S_47 N):=snd ⟨[],[],[],[],[]⟩ ⟨[(0,⟨[.tmp 7 tI],rG 8 28,[],[],[]⟩)],[],[],[]⟩ N q9 Tryz.func245
def S_48(N:Nat):FnSpec:=⟨.pair tI (.pair (.slice TLink) (.pair (.slice .bool) .nil)),(.pair (.slice (.slice tI)) .nil),[true],F_48 N,true⟩
theorem Z_48(N:Nat):SN 180 (S_48 N):=snd ⟨[((244,[]),S_46 N),((245,[]),S_47 N)],[1000014],[],[],[]⟩ ⟨[(0,⟨[.tmp 9 tI,.drow 0 (.slice tI),.row 1 .bool],rG 17 9++rG 10 5++rG 26 37++rG 67 5++[63,64,65,66],[],[],[]⟩),(2,⟨[.tmp 13 tI,.row 1 .bool,.row 4 tI],[36],[],[],[]⟩)],[],[],[]⟩ N ((q7 (Z_46 N) (cb Tryz.func244) (q7 (Z_47 N) (cb Tryz.func245) q9))) Tryz.func180
def S_49(N:Nat):FnSpec:=⟨.pair TBlock .nil,(.pair (.slice tI) .nil),[true],F_49 N,false⟩
theorem Z_49(N:Nat):SN 114 (S_49 N):=snd ⟨[((49,[]),S_45 N),((65,[]),S_39 N),((67,[]),S_44 N),((136,[]),S_43 N),((180,[]),S_48 N)],[],[],[],[]⟩ ⟨[(0,⟨[.row 3 .bool],[6,7,8]++rG 18 51,[],[],[]⟩),(2,⟨[.tmp 7 tI,.tmp 8 tI],[],[],[],[]⟩),(4,⟨[.tmp 10 tI,.row 5 tI],rG 69 16,[],[],[]⟩)],[(1000002,[(6,none)])],[],[]⟩ N ((q7 (Z_45 N) K_45 (q7 (Z_39 N) K_39 (q7 (Z_44 N) K_44 (q7 (Z_43 N) K_43 (q7 (Z_48 N) (cb Tryz.func180) q9)))))) Tryz.func114
def S_50(N:Nat):VioSpec:=⟨Tl01Source,(.pair TBlock .nil),(.pair (.slice TSource) .nil),[],fun v x=>F_50 N (v,x),false⟩
noncomputable def L_50(N:Nat):MarkL:=[]
theorem Z_50(N:Nat):VioOk Tryz.prog 115 (S_50 N):=sndV ⟨[((52,[]),S_36 N),((99,[]),S_12 N)],[],[],[],[(40,.vio (S_1 N))]⟩ (L_50 N) ⟨[(0,⟨[.tmp 7 tI,.var 0 [some (.slice (.int .u8)),some tI,some tI],.row 3 TSource],[8,9,10,11,13]++rG 21 59,[],[],[]⟩),(2,⟨[.tmp 9 tI,.var 0 [some (.slice (.int .u8)),some tI,some tI],.row 3 TSource],[],[],[],[]⟩)],[],[],[]⟩ N ((q7 (Z_36 N) K_36 (q7 (Z_12 N) K_12 q9))) (q32) ((q23 (Z_1 N) K_1 q52)) Tryz.func115
def S_51(N:Nat):VioSpec:=⟨Tl01Source,.nil,(.pair TBlock (.pair TCorner (.pair (.slice tI) (.pair (.slice TSource) .nil)))),[],fun v x=>F_51 N (v,x),false⟩
noncomputable def L_51(N:Nat):MarkL:=[]
theorem Z_51(N:Nat):VioOk Tryz.prog 54 (S_51 N):=sndV ⟨[((52,[]),S_36 N),((114,[]),S_49 N)],[],[],[],[(40,.vio (S_1 N)),(110,.vio (S_19 N)),(111,.vio (S_20 N)),(112,.vio (S_17 N).data),(113,.vio (S_42 N)),(115,.vio (S_50 N))]⟩ (L_51 N) ⟨[],[],[],[]⟩ N ((q7 (Z_36 N) K_36 (q7 (Z_49 N) (cb Tryz.func114) q9))) (q32) ((q23 (Z_1 N) K_1 (q23 (Z_19 N) (cb Tryz.func110) (q23 (Z_20 N) (cb Tryz.func111) (q23 (Z_17 N).data K_17 (q23 (Z_42 N) (cb Tryz.func113) (q23 (Z_50 N) (cb Tryz.func115) q52))))))) Tryz.func54
def S_52(N:Nat):VioSpec:=⟨Tl01Source,.nil,(.pair (.slice TCorner) .nil),[],fun v x=>F_52 N (v,x),false⟩
noncomputable def L_52(N:Nat):MarkL:=[]
theorem Z_52(N:Nat):VioOk Tryz.prog 55 (S_52 N):=sndV ⟨[],[],[],[],[(40,.vio (S_1 N))]⟩ (L_52 N) ⟨[(0,⟨[.tmp 4 tI,.var 0 [some (.slice (.int .u8)),some tI,some tI],.row 2 TCorner],[5,6]++rG 10 35,[],[],[]⟩)],[],[],[]⟩ N (q9) (q32) ((q23 (Z_1 N) K_1 q52)) Tryz.func55
def S_53(N:Nat):FnSpec:=⟨.pair (.slice (.int .u8)) .nil,(.pair TBlock (.pair (.slice TCorner) (.pair (.slice tI) (.pair (.slice TSource) .nil)))),[false,false,false,false,false,false,false,false],F_53 N,false⟩
theorem KI_39:CB 39:=cb Tryz.func39
noncomputable def I_54:InF:=⟨39,Tryz.f39,⟨[(0,⟨[.tmp 4 tI,.var 2 [some (.slice (.int .u8)),some tI,some tI]],rG 8 25,[],[],[]⟩)],[],[],[]⟩,[],false⟩
noncomputable def L_53(N:Nat):MarkL:=[]
theorem Z_53(N:Nat):SN 14 (S_53 N):=sndX ⟨[],[],[I_54],[],[(54,.vio (S_51 N)),(55,.vio (S_52 N))]⟩ (L_53 N) ⟨[],[],[],[]⟩ N (q9) (q32) ((q23 (Z_51 N) (cb Tryz.func54) (q23 (Z_52 N) (cb Tryz.func55) q52))) Tryz.func14 (hi:=(q214 Tryz.func39 KI_39 q362))
def S_55(N:Nat):FnSpec:=⟨.pair TCorner .nil,(.pair .bool .nil),[false],F_55 N,false⟩
theorem K_55:CB 124:=cb Tryz.func124
theorem Z_55(N:Nat):SN 124 (S_55 N):=snd ⟨[((77,[]),S_22 N),((196,[]),S_21 N)],[],[],[],[]⟩ ⟨[(0,⟨[.tmp 4 tI],rG 14 12,[],[],[]⟩)],[],[],[]⟩ N ((q7 (Z_22 N) K_22 (q7 (Z_21 N) K_21 q9))) Tryz.func124
def S_56(N:Nat):FnSpec:=⟨.pair (.slice TCorner) .nil,(.pair .bool .nil),[false],F_56 N,false⟩
theorem Z_56(N:Nat):SN 59 (S_56 N):=snd ⟨[((124,[]),S_55 N)],[],[],[],[]⟩ ⟨[(0,⟨[.tmp 3 tI],rG 4 29,[],[],[]⟩),(2,⟨[.tmp 4 tI],[],[],[],[]⟩)],[],[],[]⟩ N ((q7 (Z_55 N) K_55 q9)) Tryz.func59
def S_57(N:Nat):FnSpec:=⟨.pair (.slice tI) tN,(.pair .bool .nil),[false],F_57 N,false⟩
theorem Z_57(N:Nat):SN 205 (S_57 N):=snd ⟨[((77,[]),S_22 N)],[],[],[],[]⟩ ⟨[(0,⟨[.tmp 5 tI],rG 6 30,[],[],[]⟩)],[],[],[]⟩ N ((q7 (Z_22 N) K_22 q9)) Tryz.func205
def S_58(N:Nat):FnSpec:=⟨.pair TBlock (.pair (.slice tI) .nil),tN,[false],F_58 N,false⟩
theorem K_58:CB 128:=cb Tryz.func128
theorem Z_58(N:Nat):SN 128 (S_58 N):=snd ⟨[((52,[]),S_36 N),((65,[]),S_39 N),((205,[]),S_57 N)],[],[],[],[]⟩ ⟨[],[],[],[]⟩ N ((q7 (Z_36 N) K_36 (q7 (Z_39 N) K_39 (q7 (Z_57 N) (cb Tryz.func205) q9)))) Tryz.func128
def S_59(N:Nat):FnSpec:=⟨.pair TSpan .nil,(.pair .bool .nil),[false],F_59 N,false⟩
theorem K_59:CB 108:=cb Tryz.func108
theorem Z_59(N:Nat):SN 108 (S_59 N):=snd ⟨[((77,[]),S_22 N)],[],[],[],[]⟩ ⟨[],[],[],[]⟩ N ((q7 (Z_22 N) K_22 q9)) Tryz.func108
def S_60(N:Nat):FnSpec:=⟨.pair TSpan .nil,(.pair .bool .nil),[false],F_60 N,false⟩
theorem K_60:CB 109:=cb Tryz.func109
theorem Z_60(N:Nat):SN 109 (S_60 N):=snd ⟨[],[],[],[],[]⟩ ⟨[],[],[],[]⟩ N q9 Tryz.func109
def S_61(N:Nat):FnSpec:=⟨.pair TBlock (.pair (.slice TSource) .nil),(.pair .bool .nil),[false],F_61 N,false⟩
theorem Z_61(N:Nat):SN 129 (S_61 N):=snd ⟨[((49,[]),S_45 N),((77,[]),S_22 N),((108,[]),S_59 N),((109,[]),S_60 N)],[],[],[],[]⟩ ⟨[(0,⟨[.tmp 6 tI],rG 9 51,[],[],[]⟩)],[],[],[]⟩ N ((q7 (Z_45 N) K_45 (q7 (Z_22 N) K_22 (q7 (Z_59 N) K_59 (q7 (Z_60 N) K_60 q9))))) Tryz.func129
def S_62(N:Nat):FnSpec:=⟨.pair tI (.pair (.slice TLink) (.pair (.slice .bool) .nil)),(.pair (.slice tI) (.pair .bool .nil)),[true,false],F_62 N,false⟩
theorem Z_62(N:Nat):SN 147 (S_62 N):=snd ⟨[],[],[],[],[]⟩ ⟨[(0,⟨[.row 0 tI,.row 1 .bool],[10,11,12,13]++rG 16 54++rG 71 7,[],[],[]⟩),(2,⟨[.tmp 11 tI,.row 2 .bool],[],[],[],[]⟩),(4,⟨[.tmp 12 tI],[],[],[],[]⟩)],[],[],[]⟩ N q9 Tryz.func147
def S_63(N:Nat):FnSpec:=⟨.pair TBlock (.pair (.slice tI) .nil),(.pair (.slice tI) tN),[true,false],F_63 N,false⟩
theorem Z_63(N:Nat):SN 130 (S_63 N):=snd ⟨[((49,[]),S_45 N),((65,[]),S_39 N),((67,[]),S_44 N),((128,[]),S_58 N),((147,[]),S_62 N)],[],[],[],[]⟩ ⟨[],[],[],[]⟩ N ((q7 (Z_45 N) K_45 (q7 (Z_39 N) K_39 (q7 (Z_44 N) K_44 (q7 (Z_58 N) K_58 (q7 (Z_62 N) (cb Tryz.func147) q9)))))) Tryz.func130
def S_64(N:Nat):FnSpec:=⟨.pair TBlock (.pair TCorner (.pair (.slice tI) (.pair (.slice TSource) .nil))),(.pair (.slice tI) tN),[true,false],F_64 N,false⟩
theorem Z_64(N:Nat):SN 64 (S_64 N):=snd ⟨[((52,[]),S_36 N),((124,[]),S_55 N),((128,[]),S_58 N),((129,[]),S_61 N),((130,[]),S_63 N)],[],[],[],[]⟩ ⟨[],[],[],[]⟩ N ((q7 (Z_36 N) K_36 (q7 (Z_55 N) K_55 (q7 (Z_58 N) K_58 (q7 (Z_61 N) (cb Tryz.func129) (q7 (Z_63 N) (cb Tryz.func130) q9)))))) Tryz.func64
def S_65(N:Nat):FnSpec:=⟨tN,(.pair TTiming .nil),[true,true,true],F_65 N,false⟩
theorem K_65:CB 97:=cb Tryz.func97
theorem Z_65(N:Nat):SN 97 (S_65 N):=snd ⟨[],[],[],[],[]⟩ ⟨[],[],[],[]⟩ N q9 Tryz.func97
def S_66(N:Nat):FnSpec:=⟨.pair TLibrary (.pair TDesign (.pair Tl05Place .nil)),tN,[false],F_66 N,false⟩
theorem Z_66(N:Nat):SN 351 (S_66 N):=snd ⟨[],[],[],[],[]⟩ ⟨[],[],[],[]⟩ N q9 Tryz.func351
def S_67(N:Nat):FnSpec:=⟨.pair TBlock tN,(.pair (.slice tI) .nil),[true],F_67 N,false⟩
theorem K_67:CB 331:=cb Tryz.func331
theorem Z_67(N:Nat):SN 331 (S_67 N):=snd ⟨[((99,[]),S_12 N),((107,[]),S_13 N),((240,[]),S_15 N),((351,[]),S_66 N)],[],[],[],[]⟩ ⟨[(0,⟨[.tmp 9 tI,.row 2 tI],rG 26 28,[],[],[]⟩),(2,⟨[.tmp 10 tI,.row 2 tI],rG 57 18,[],[],[]⟩)],[],[],[]⟩ N ((q7 (Z_12 N) K_12 (q7 (Z_13 N) K_13 (q7 (Z_15 N) K_15 (q7 (Z_66 N) (cb Tryz.func351) q9))))) Tryz.func331
def S_68(N:Nat):FnSpec:=⟨.pair TBlock (.pair TLink .nil),(.pair TArc tN),[false,false,false,false,false,false,false],F_68 N,false⟩
theorem K_68:CB 304:=cb Tryz.func304
theorem Z_68(N:Nat):SN 304 (S_68 N):=snd ⟨[((99,[]),S_12 N),((331,[]),S_67 N)],[],[],[],[]⟩ ⟨[],[],[],[]⟩ N ((q7 (Z_12 N) K_12 (q7 (Z_67 N) K_67 q9))) Tryz.func304
def S_69(N:Nat):FnSpec:=⟨.pair (.slice tI) tN,(.pair tI (.pair tI tN)),[false,false,false],F_69 N,false⟩
theorem Z_69(N:Nat):SN 332 (S_69 N):=snd ⟨[],[],[],[],[]⟩ ⟨[(0,⟨[.tmp 8 tI],rG 25 10++rG 36 6,[],[],[]⟩)],[],[],[]⟩ N q9 Tryz.func332
def S_70(N:Nat):FnSpec:=⟨.pair tI (.pair tI tN),tN,[false],F_70 N,false⟩
theorem K_70:CB 308:=cb Tryz.func308
theorem Z_70(N:Nat):SN 308 (S_70 N):=snd ⟨[],[],[],[],[]⟩ ⟨[],[],[],[]⟩ N q9 Tryz.func308
def S_71(N:Nat):FnSpec:=⟨.pair TTable (.pair tI (.pair tI tN)),tN,[false],F_71 N,false⟩
theorem K_71:CB 305:=cb Tryz.func305
theorem Z_71(N:Nat):SN 305 (S_71 N):=snd ⟨[((308,[]),S_70 N),((332,[]),S_69 N)],[],[],[],[]⟩ ⟨[(0,⟨[.tmp 16 tI,.tmp 17 tI],[18,19]++rG 39 39,[],[],[]⟩),(2,⟨[.tmp 16 tI,.tmp 18 tI],[],[],[],[]⟩)],[],[],[]⟩ N ((q7 (Z_70 N) K_70 (q7 (Z_69 N) (cb Tryz.func332) q9))) Tryz.func305
def S_72(N:Nat):FnSpec:=⟨.pair TCorner (.pair tI tN),tN,[false],F_72 N,false⟩
theorem Z_72(N:Nat):SN 309 (S_72 N):=snd ⟨[],[],[],[],[]⟩ ⟨[],[],[],[]⟩ N q9 Tryz.func309
def S_73(N:Nat):FnSpec:=⟨.pair TBlock (.pair TLink .nil),tN,[false],F_73 N,false⟩
theorem K_73:CB 307:=cb Tryz.func307
theorem Z_73(N:Nat):SN 307 (S_73 N):=snd ⟨[((99,[]),S_12 N)],[],[],[],[]⟩ ⟨[],[],[],[]⟩ N ((q7 (Z_12 N) K_12 q9)) Tryz.func307
def S_74(N:Nat):FnSpec:=⟨.pair TBlock tN,(.pair (.slice tI) .nil),[true],F_74 N,false⟩
theorem K_74:CB 333:=cb Tryz.func333
theorem Z_74(N:Nat):SN 333 (S_74 N):=snd ⟨[((331,[]),S_67 N)],[],[],[],[]⟩ ⟨[(0,⟨[.tmp 8 tI,.row 3 tI],rG 17 29,[],[],[]⟩)],[],[],[]⟩ N ((q7 (Z_67 N) K_67 q9)) Tryz.func333
def S_75(N:Nat):FnSpec:=⟨.pair TBlock (.pair tI tN),(.pair (.slice tI) .nil),[true],F_75 N,false⟩
theorem Z_75(N:Nat):SN 306 (S_75 N):=snd ⟨[((308,[]),S_70 N),((333,[]),S_74 N)],[],[],[],[]⟩ ⟨[(0,⟨[.tmp 9 tI,.row 2 tI],rG 13 29,[],[],[]⟩)],[],[],[]⟩ N ((q7 (Z_70 N) K_70 (q7 (Z_74 N) K_74 q9))) Tryz.func306
end Go.Proofs.YtcmhpcoiomdekaaGreatDoor
