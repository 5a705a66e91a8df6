/- The functions' contracts. Printed by my dec.py. No condition of its own. -/
import Derived.Test.YtcmhpcoiomdekaaGreatDoorPgL
import Derived.Test.YtcmhpcoiomdekaaGreatDoorPvF1
import Derived.Test.YtcmhpcoiomdekaaGreatDoorProg
import Derived.Test.YtcmhpcoiomdekaaGreatDoorPgG
namespace Go.Proofs.YtcmhpcoiomdekaaGreatDoor
abbrev tI:Ty:=.int .i64
abbrev tN:Ty:=.pair tI .nil
abbrev rG:=List.range'
open Go.RowKit
set_option maxRecDepth 100000
set_option linter.unusedVariables false
abbrev CB(f:FuncId):Prop:=q20 Tryz.prog f
theorem cb{f : FuncId}{fn : Func}(h : Tryz.prog.funcs[f]? = some fn)(h1 : fn.body.isNone = false := by kernel_rfl)(h2 : (fn.name == "runtime.NumGoroutine") = false := by kernel_rfl) : CB f := ⟨_, h, h1, h2⟩
abbrev SN(f:FuncId)(S:FnSpec):Prop:=Sound Tryz.prog PRE f S
theorem snd(C:Ctx)(H:Hints)(N:Nat){f:FuncId}{fn:Func}{S:FnSpec}(hc:∀ p∈C.fns,Sound Tryz.prog PRE p.1.1 p.2/\q20 Tryz.prog p.1.1)(hf:Tryz.prog.funcs[f]?=some fn)(hm:Tryz.prog.follows .mixedOrders=true:=by kernel_rfl)(hp:q94 S.ps=true:=by kernel_rfl)
 (h:∀ x,pevFn Tryz.prog C N H S fn x=S.fn x:=by intro x; kernel_rfl) (hi:∀ x∈C.inl,Tryz.prog.funcs[x.fid]?=some x.fn/\q20 Tryz.prog x.fid:=by intro x hx; cases hx) (ht:∀ w,PRE w->TabsAt C.tabs w:=by exact fun w _=>q229 w) (hio:∀ p∈C.io,HookOk Tryz.prog p.1 p.2/\q20 Tryz.prog p.1:=by intro p hp; cases hp):SN f S:=
 q552 (C:=C) (H:=H) (N:=N) (q474 q501 hm hc hi ht hio) hf hp (fun x r k=>(h x).trans k)
theorem sndX(C:Ctx)(L:MarkL)(H:Hints)(N:Nat){f:FuncId}{fn:Func}{S:FnSpec}(hc:∀ p∈C.fns,Sound Tryz.prog PRE p.1.1 p.2/\q20 Tryz.prog p.1.1)(hL:∀ p∈L,MarkOk Tryz.prog p.1 p.2/\q20 Tryz.prog p.1)(hio:∀ p∈C.io,HookOk Tryz.prog p.1 p.2/\q20 Tryz.prog p.1)(hf:Tryz.prog.funcs[f]?=some fn)(hm:Tryz.prog.follows .mixedOrders=true:=by kernel_rfl)(hp:q94 S.ps=true:=by kernel_rfl)
 (h:∀ x,pevFnX Tryz.prog C L N H S fn x=S.fn x:=by intro x; kernel_rfl) (hi:∀ x∈C.inl,Tryz.prog.funcs[x.fid]?=some x.fn/\q20 Tryz.prog x.fid:=by intro x hx; cases hx) (ht:∀ w,PRE w->TabsAt C.tabs w:=by exact fun w _=>q229 w):SN f S:=
 q476 (C:=C) (H:=H) (N:=N) (L:=L) (q474 q501 hm hc hi ht hio) hL hf hp (fun x r k=>(h x).trans k)
theorem sndV(C:Ctx)(L:MarkL)(H:Hints)(N:Nat){f:FuncId}{fn:Func}{S:VioSpec}(hc:∀ p∈C.fns,Sound Tryz.prog PRE p.1.1 p.2/\q20 Tryz.prog p.1.1)(hL:∀ p∈L,MarkOk Tryz.prog p.1 p.2/\q20 Tryz.prog p.1)(hio:∀ p∈C.io,HookOk Tryz.prog p.1 p.2/\q20 Tryz.prog p.1)(hf:Tryz.prog.funcs[f]?=some fn)(hm:Tryz.prog.follows .mixedOrders=true:=by kernel_rfl)
 (h:∀ v x,pevFnV Tryz.prog C L N H S fn v x=S.fn v x:=by intro v x; kernel_rfl) (hi:∀ x∈C.inl,Tryz.prog.funcs[x.fid]?=some x.fn/\q20 Tryz.prog x.fid:=by intro x hx; cases hx) (ht:∀ w,PRE w->TabsAt C.tabs w:=by exact fun w _=>q229 w) (hT:∀ w,PRE w:=by exact fun _=>trivial):VioOk Tryz.prog f S:=
 q662 (C:=C) (H:=H) (N:=N) (L:=L) (q474 q501 hm hc hi ht hio) hT hL hf (fun v x r k=>(h v x).trans k)
def S_0(N:Nat):FnSpec:=⟨.pair (.slice (.int .u8)) .nil,(.pair .bool .nil),[false],F_0 N,false⟩
theorem Z_0(N:Nat):SN 7 (S_0 N):=snd ⟨[],[],[],[],[]⟩ ⟨[],[],[],[]⟩ N q9 Tryz.func7
def S_1(N:Nat):VioSpec:=⟨Tl01Source,tN,tN,[],fun v x=>F_1 N (v,x),false⟩
theorem K_1:CB 40:=cb Tryz.func40
noncomputable def L_1(N:Nat):MarkL:=[]
theorem Z_1(N:Nat):VioOk Tryz.prog 40 (S_1 N):=sndV ⟨[],[],[],[],[]⟩ (L_1 N) ⟨[],[],[],[]⟩ N (q9) (q38) (q68) Tryz.func40
def S_2(N:Nat):FnSpec:=⟨.pair TCell tN,tN,[false],F_2 N,false⟩
theorem Z_2(N:Nat):SN 295 (S_2 N):=snd ⟨[],[],[],[],[]⟩ ⟨[(0,⟨[.tmp 8 tI,.tmp 5 .bool,.tmp 6 .bool],rG 12 43,[],[],[]⟩)],[],[],[]⟩ N q9 Tryz.func295
def S_3(N:Nat):VioSpec:=⟨Tl01Source,tN,(.pair (.slice tI) .nil),[],fun v x=>F_3 N (v,x),false⟩
noncomputable def L_3(N:Nat):MarkL:=[]
theorem Z_3(N:Nat):VioOk Tryz.prog 360 (S_3 N):=sndV ⟨[],[],[],[],[(40,.vio (S_1 N))]⟩ (L_3 N) ⟨[(0,⟨[.tmp 6 tI,.tmp 7 tI,.var 0 [some (.slice (.int .u8)),some tI,some tI],.row 2 tI],[8]++rG 15 14,[],[],[]⟩)],[],[],[]⟩ N (q9) (q38) ((q25 (Z_1 N) K_1 q68)) Tryz.func360
def S_4(N:Nat):VioSpec:=⟨Tl01Source,tN,(.pair TTable .nil),[],fun v x=>F_4 N (v,x),false⟩
noncomputable def L_4(N:Nat):MarkL:=[]
theorem Z_4(N:Nat):VioOk Tryz.prog 344 (S_4 N):=sndV ⟨[],[],[],[],[(40,.vio (S_1 N)),(360,.vio (S_3 N))]⟩ (L_4 N) ⟨[(0,⟨[.tmp 9 tI,.var 0 [some (.slice (.int .u8)),some tI,some tI],.row 3 tI],[10,15]++rG 18 44,[],[],[]⟩)],[],[],[]⟩ N (q9) (q38) ((q25 (Z_1 N) K_1 (q25 (Z_3 N) (cb Tryz.func360) q68))) Tryz.func344
def S_5(N:Nat):VioSpec:=⟨Tl01Source,tN,(.pair (.slice TTable) .nil),[],fun v x=>F_5 N (v,x),false⟩
noncomputable def L_5(N:Nat):MarkL:=[]
theorem Z_5(N:Nat):VioOk Tryz.prog 323 (S_5 N):=sndV ⟨[],[],[],[],[(344,.vio (S_4 N))]⟩ (L_5 N) ⟨[],[],[],[]⟩ N (q9) (q38) ((q25 (Z_4 N) (cb Tryz.func344) q68)) Tryz.func323
def S_6(N:Nat):VioSpec:=⟨Tl01Source,(.pair tI (.pair tI (.pair tI tN))),(.pair TArc .nil),[],fun v x=>F_6 N (v,x),false⟩
theorem K_6:CB 296:=cb Tryz.func296
noncomputable def L_6(N:Nat):MarkL:=[]
theorem Z_6(N:Nat):VioOk Tryz.prog 296 (S_6 N):=sndV ⟨[],[],[],[],[(40,.vio (S_1 N)),(323,.vio (S_5 N))]⟩ (L_6 N) ⟨[],[],[],[]⟩ N (q9) (q38) ((q25 (Z_1 N) K_1 (q25 (Z_5 N) (cb Tryz.func323) q68))) Tryz.func296
def S_7(N:Nat):VioSpec:=⟨Tl01Source,(.pair .str (.pair (.slice tI) .nil)),(.pair TCell .nil),[],fun v x=>F_7 N (v,x),false⟩
noncomputable def L_7(N:Nat):MarkL:=[]
theorem Z_7(N:Nat):VioOk Tryz.prog 241 (S_7 N):=sndV ⟨[((295,[]),S_2 N)],[],[],[],[(40,.vio (S_1 N)),(296,.vio (S_6 N))]⟩ (L_7 N) ⟨[(0,⟨[.tmp 10 tI,.var 0 [some (.slice (.int .u8)),some tI,some tI],.row 5 TPin],rG 23 19,[],[],[]⟩),(2,⟨[.tmp 13 tI,.var 0 [some (.slice (.int .u8)),some tI,some tI],.row 7 TArc],[14]++rG 49 19,[],[],[]⟩)],[],[],[]⟩ N ((q7 (Z_2 N) (cb Tryz.func295) q9)) (q38) ((q25 (Z_1 N) K_1 (q25 (Z_6 N) K_6 q68))) Tryz.func241
def S_8(N:Nat):VioSpec:=⟨Tl01Source,(.pair .str (.pair tI tN)),(.pair TCell .nil),[],fun v x=>F_8 N (v,x),false⟩
noncomputable def L_8(N:Nat):MarkL:=[]
theorem Z_8(N:Nat):VioOk Tryz.prog 242 (S_8 N):=sndV ⟨[],[],[],[],[(40,.vio (S_1 N)),(296,.vio (S_6 N))]⟩ (L_8 N) ⟨[],[],[],[]⟩ N (q9) (q38) ((q25 (Z_1 N) K_1 (q25 (Z_6 N) K_6 q68))) Tryz.func242
def S_9(N:Nat):VioSpec:=⟨Tl01Source,.nil,(.pair TLibrary .nil),[],fun v x=>F_9 N (v,x),false⟩
noncomputable def L_9(N:Nat):MarkL:=[]
theorem Z_9(N:Nat):VioOk Tryz.prog 177 (S_9 N):=sndV ⟨[],[14,17,20,23,26],[],[],[(241,.vio (S_7 N)),(242,.vio (S_8 N))]⟩ (L_9 N) ⟨[],[],[],[]⟩ N (q9) (q38) ((q25 (Z_7 N) (cb Tryz.func241) (q25 (Z_8 N) (cb Tryz.func242) q68))) Tryz.func177
def S_10(N M:Nat):FnSpec:=⟨tN,(.pair .str .nil),[false],F_10 N M,false⟩
noncomputable def C_10(N M:Nat):Ctx:=⟨[((93,[]),S_10 N M)],[],[],[],[]⟩
theorem K_10:CB 93:=cb Tryz.func93
theorem Z_10(N:Nat):∀ M,SN 93 (S_10 N M)
 | 0=>fun w args x r ok _ _ _ h=>nomatch (show none=some r from h)
 | M+1=>snd (C_10 N M) ⟨[],[],[],[]⟩ N (q7 (Z_10 N M) K_10 q9) Tryz.func93
def S_11(N:Nat):VioSpec:=⟨Tl01Source,(.pair tI (.pair .bool .nil)),(.pair TDesign .nil),[true,true,true],fun v x=>F_11 N (v,x),true⟩
noncomputable def L_11(N:Nat):MarkL:=[]
theorem Z_11(N:Nat):VioOk Tryz.prog 178 (S_11 N):=sndV ⟨[((93,[]),S_10 N N)],[1000026],[],[],[(40,.vio (S_1 N))]⟩ (L_11 N) ⟨[(0,⟨[.tmp 11 tI,.var 0 [some (.slice (.int .u8)),some tI,some tI],.drow 7 TInstance,.row 8 .str],[12,13,14,15,26,30]++rG 36 70,[],[],[]⟩),(2,⟨[.tmp 14 tI,.var 0 [some (.slice (.int .u8)),some tI,some tI],.var 10 [some .str,some tI,none],.row 11 tI],[],[],[(10,2,tI),(10,2,tI),(10,2,tI),(10,2,tI),(10,2,tI),(10,2,tI)],[(10,2,11)]⟩),(4,⟨[.tmp 16 tI,.var 0 [some (.slice (.int .u8)),some tI,some tI],.drow 7 TInstance],rG 106 17++[129,130]++rG 132 14++rG 123 6++[131],[],[],[]⟩)],[],[],[]⟩ N ((q7 (Z_10 N N) K_10 q9)) (q38) ((q25 (Z_1 N) K_1 q68)) Tryz.func178
def S_12(N:Nat):FnSpec:=⟨.pair TDesign .nil,(.pair (.slice Tl05Place) .nil),[true],F_12 N,false⟩
theorem K_12:CB 99:=cb Tryz.func99
theorem Z_12(N:Nat):SN 99 (S_12 N):=snd ⟨[],[],[],[],[]⟩ ⟨[(0,⟨[.tmp 4 tI,.row 1 Tl05Place],[5,6]++rG 8 35,[],[],[]⟩),(2,⟨[.tmp 6 tI,.row 1 Tl05Place],[],[],[],[]⟩),(4,⟨[.tmp 7 tI,.row 1 Tl05Place],rG 43 25,[],[],[]⟩)],[],[],[]⟩ N q9 Tryz.func99
def S_13(N:Nat):FnSpec:=⟨.pair TDesign tN,(.pair (.slice tI) .nil),[true],F_13 N,false⟩
theorem K_13:CB 107:=cb Tryz.func107
theorem Z_13(N:Nat):SN 107 (S_13 N):=snd ⟨[((99,[]),S_12 N)],[],[],[],[]⟩ ⟨[(0,⟨[.tmp 7 tI,.row 1 tI],[8]++rG 11 25,[],[],[]⟩)],[],[],[]⟩ N ((q7 (Z_12 N) K_12 q9)) Tryz.func107
def S_14(N:Nat):FnSpec:=⟨.pair tI tN,(.pair TWire .nil),[true,true,true,true],F_14 N,false⟩
theorem Z_14(N:Nat):SN 243 (S_14 N):=snd ⟨[],[],[],[],[]⟩ ⟨[],[],[],[]⟩ N q9 Tryz.func243
def S_15(N:Nat):FnSpec:=⟨.pair (.slice tI) .nil,(.pair (.slice tI) .nil),[true],F_15 N,false⟩
theorem K_15:CB 240:=cb Tryz.func240
theorem Z_15(N:Nat):SN 240 (S_15 N):=snd ⟨[],[],[],[],[]⟩ ⟨[],[],[],[]⟩ N q9 Tryz.func240
def S_16(N:Nat):VioSpec:=⟨Tl01Source,tN,(.pair TWire .nil),[true,true,true,true],fun v x=>F_16 N (v,x),true⟩
noncomputable def L_16(N:Nat):MarkL:=[]
theorem Z_16(N:Nat):VioOk Tryz.prog 179 (S_16 N):=sndV ⟨[((240,[]),S_15 N),((243,[]),S_14 N)],[],[],[],[(40,.vio (S_1 N))]⟩ (L_16 N) ⟨[(0,⟨[.tmp 6 tI,.var 0 [some (.slice (.int .u8)),some tI,some tI],.row 3 tI,.row 4 tI,.row 5 tI,.var 7 [none,none,none,none]],[7]++rG 15 32++[12],[],[],[(7,0,3),(7,1,4),(7,2,5)]⟩),(2,⟨[.tmp 8 tI,.var 0 [some (.slice (.int .u8)),some tI,some tI],.row 6 tI],rG 47 16,[],[],[]⟩)],[],[],[]⟩ N ((q7 (Z_15 N) K_15 (q7 (Z_14 N) (cb Tryz.func243) q9))) (q38) ((q25 (Z_1 N) K_1 q68)) Tryz.func179
def S_17(N:Nat):VioSpec:=⟨Tl01Source,(.pair tI (.pair .bool .nil)),(.pair TBlock .nil),[false,true,true,true,true],fun v x=>F_17 N (v,x),true⟩
theorem K_17:CB 112:=cb Tryz.func112
noncomputable def L_17(N:Nat):MarkL:=[]
theorem Z_17(N:Nat):VioOk Tryz.prog 112 (S_17 N):=sndV ⟨[((107,[]),S_13 N)],[1000017],[],[],[(177,.vio (S_9 N)),(178,.vio (S_11 N)),(179,.vio (S_16 N))]⟩ (L_17 N) ⟨[(0,⟨[.tmp 10 tI,.var 0 [some (.slice (.int .u8)),some tI,some tI],.drow 8 TWire],rG 17 17,[],[],[]⟩)],[],[],[]⟩ N ((q7 (Z_13 N) K_13 q9)) (q38) ((q25 (Z_9 N) (cb Tryz.func177) (q25 (Z_11 N) (cb Tryz.func178) (q25 (Z_16 N) (cb Tryz.func179) q68)))) Tryz.func112
def S_18(N:Nat):VioSpec:=⟨Tl01Source,.nil,(.pair TBlock .nil),[false,true,true,true,false],fun v x=>F_18 N (v,x),true⟩
noncomputable def L_18(N:Nat):MarkL:=[]
theorem Z_18(N:Nat):VioOk Tryz.prog 176 (S_18 N):=sndV ⟨[((240,[]),S_15 N)],[],[],[],[(40,.vio (S_1 N)),(112,.vio (S_17 N))]⟩ (L_18 N) ⟨[],[(5,[(12,none)])],[],[]⟩ N ((q7 (Z_15 N) K_15 q9)) (q38) ((q25 (Z_1 N) K_1 (q25 (Z_17 N) K_17 q68))) Tryz.func176
def S_19(N:Nat):VioSpec:=⟨Tl01Source,.nil,(.pair TBlock .nil),[],fun v x=>F_19 N (v,x),false⟩
noncomputable def L_19(N:Nat):MarkL:=[]
theorem Z_19(N:Nat):VioOk Tryz.prog 110 (S_19 N):=sndV ⟨[],[],[],[],[(40,.vio (S_1 N)),(112,.vio (S_17 N)),(176,.vio (S_18 N))]⟩ (L_19 N) ⟨[],[],[],[]⟩ N (q9) (q38) ((q25 (Z_1 N) K_1 (q25 (Z_17 N) K_17 (q25 (Z_18 N) (cb Tryz.func176) q68)))) Tryz.func110
def S_20(N:Nat):VioSpec:=⟨Tl01Source,.nil,(.pair TCorner .nil),[],fun v x=>F_20 N (v,x),false⟩
noncomputable def L_20(N:Nat):MarkL:=[]
theorem Z_20(N:Nat):VioOk Tryz.prog 111 (S_20 N):=sndV ⟨[],[],[],[],[(40,.vio (S_1 N))]⟩ (L_20 N) ⟨[],[],[],[]⟩ N (q9) (q38) ((q25 (Z_1 N) K_1 q68)) Tryz.func111
def S_21(N:Nat):FnSpec:=⟨.pair .str .nil,(.pair .bool .nil),[false],F_21 N,false⟩
theorem K_21:CB 196:=cb Tryz.func196
theorem Z_21(N:Nat):SN 196 (S_21 N):=snd ⟨[],[],[],[],[]⟩ ⟨[(0,⟨[.tmp 3 tI],rG 4 38,[],[],[]⟩)],[],[],[]⟩ N q9 Tryz.func196
def S_22(N:Nat):FnSpec:=⟨.pair tI (.pair tI tN),(.pair .bool .nil),[false],F_22 N,false⟩
theorem K_22:CB 77:=cb Tryz.func77
theorem Z_22(N:Nat):SN 77 (S_22 N):=snd ⟨[],[],[],[],[]⟩ ⟨[],[],[],[]⟩ N q9 Tryz.func77
def S_23(N:Nat):FnSpec:=⟨.pair TCell .nil,(.pair tI (.pair .bool .nil)),[false,false],F_23 N,false⟩
theorem Z_23(N:Nat):SN 292 (S_23 N):=snd ⟨[((77,[]),S_22 N),((196,[]),S_21 N)],[],[],[],[]⟩ ⟨[(0,⟨[.tmp 5 tI,.tmp 6 tI],[7,8]++rG 18 67,[],[],[]⟩),(2,⟨[.tmp 8 tI],[],[],[],[]⟩)],[],[],[]⟩ N ((q7 (Z_22 N) K_22 (q7 (Z_21 N) K_21 q9))) Tryz.func292
def S_24(N:Nat):FnSpec:=⟨.pair (.slice tI) .nil,(.pair .bool .nil),[false],F_24 N,false⟩
theorem Z_24(N:Nat):SN 369 (S_24 N):=snd ⟨[((77,[]),S_22 N)],[],[],[],[]⟩ ⟨[(0,⟨[.tmp 3 tI],rG 4 28,[],[],[]⟩)],[],[],[]⟩ N ((q7 (Z_22 N) K_22 q9)) Tryz.func369
def S_25(N:Nat):FnSpec:=⟨.pair TTable .nil,(.pair .bool .nil),[false],F_25 N,false⟩
theorem Z_25(N:Nat):SN 359 (S_25 N):=snd ⟨[((77,[]),S_22 N),((369,[]),S_24 N)],[],[],[],[]⟩ ⟨[(0,⟨[.tmp 3 tI],rG 27 14,[],[],[]⟩)],[],[],[]⟩ N ((q7 (Z_22 N) K_22 (q7 (Z_24 N) (cb Tryz.func369) q9))) Tryz.func359
def S_26(N:Nat):FnSpec:=⟨.pair TTable .nil,(.pair TSpan tN),[false,false,false],F_26 N,false⟩
theorem Z_26(N:Nat):SN 343 (S_26 N):=snd ⟨[((359,[]),S_25 N)],[],[],[],[]⟩ ⟨[(0,⟨[.tmp 5 tI,.var 2 [some tI,some tI]],rG 19 25,[],[],[]⟩)],[],[],[]⟩ N ((q7 (Z_25 N) (cb Tryz.func359) q9)) Tryz.func343
def S_27(N:Nat):FnSpec:=⟨.pair (.slice TTable) (.pair .bool .nil),(.pair .bool .nil),[false],F_27 N,false⟩
theorem Z_27(N:Nat):SN 322 (S_27 N):=snd ⟨[((343,[]),S_26 N)],[],[],[],[]⟩ ⟨[(0,⟨[.tmp 5 tI],[6,7]++rG 11 22,[],[],[]⟩)],[],[],[]⟩ N ((q7 (Z_26 N) (cb Tryz.func343) q9)) Tryz.func322
def S_28(N:Nat):FnSpec:=⟨.pair TCell (.pair TArc .nil),(.pair .bool .nil),[false],F_28 N,false⟩
theorem Z_28(N:Nat):SN 293 (S_28 N):=snd ⟨[((77,[]),S_22 N),((322,[]),S_27 N)],[],[],[],[]⟩ ⟨[],[],[],[]⟩ N ((q7 (Z_22 N) K_22 (q7 (Z_27 N) (cb Tryz.func322) q9))) Tryz.func293
def S_29(N:Nat):FnSpec:=⟨.pair TCell .nil,(.pair (.slice tI) .nil),[true],F_29 N,false⟩
theorem Z_29(N:Nat):SN 294 (S_29 N):=snd ⟨[],[],[],[],[]⟩ ⟨[(0,⟨[.tmp 4 tI,.row 1 tI],rG 6 18,[],[],[]⟩)],[],[],[]⟩ N q9 Tryz.func294
def S_30(N:Nat):FnSpec:=⟨.pair TCell .nil,(.pair .bool .nil),[false],F_30 N,false⟩
theorem Z_30(N:Nat):SN 239 (S_30 N):=snd ⟨[((77,[]),S_22 N),((196,[]),S_21 N),((292,[]),S_23 N),((293,[]),S_28 N),((294,[]),S_29 N)],[],[],[],[]⟩ ⟨[(0,⟨[.tmp 5 tI],[6,7]++rG 41 52,[],[],[]⟩),(2,⟨[.tmp 7 tI],[],[],[],[]⟩),(5,⟨[.tmp 9 tI],rG 99 14,[],[],[]⟩)],[],[],[]⟩ N ((q7 (Z_22 N) K_22 (q7 (Z_21 N) K_21 (q7 (Z_23 N) (cb Tryz.func292) (q7 (Z_28 N) (cb Tryz.func293) (q7 (Z_29 N) (cb Tryz.func294) q9)))))) Tryz.func239
def S_31(N:Nat):FnSpec:=⟨.pair TLibrary .nil,(.pair .bool .nil),[false],F_31 N,false⟩
theorem Z_31(N:Nat):SN 173 (S_31 N):=snd ⟨[((239,[]),S_30 N)],[],[],[],[]⟩ ⟨[(0,⟨[.tmp 3 tI],rG 4 33,[],[],[]⟩),(2,⟨[.tmp 4 tI],[],[],[],[]⟩)],[],[],[]⟩ N ((q7 (Z_30 N) (cb Tryz.func239) q9)) Tryz.func173
def S_32(N:Nat):FnSpec:=⟨.pair TLibrary (.pair TDesign .nil),(.pair .bool .nil),[false],F_32 N,false⟩
theorem Z_32(N:Nat):SN 174 (S_32 N):=snd ⟨[((77,[]),S_22 N)],[],[],[],[]⟩ ⟨[(0,⟨[.tmp 6 tI],[7,8]++rG 13 50,[],[],[]⟩),(2,⟨[.tmp 8 tI],[],[],[],[]⟩),(4,⟨[.tmp 9 tI],rG 63 27,[],[],[]⟩)],[],[],[]⟩ N ((q7 (Z_22 N) K_22 q9)) Tryz.func174
def S_33(N:Nat):FnSpec:=⟨.pair (.slice .str) .nil,(.pair .bool .nil),[false],F_33 N,false⟩
theorem Z_33(N:Nat):SN 175 (S_33 N):=snd ⟨[((196,[]),S_21 N)],[],[],[],[]⟩ ⟨[(0,⟨[.tmp 3 tI],rG 4 27,[],[],[]⟩),(2,⟨[.tmp 4 tI],[],[],[],[]⟩)],[],[],[]⟩ N ((q7 (Z_21 N) K_21 q9)) Tryz.func175
def S_34(N:Nat):FnSpec:=⟨.pair TLibrary (.pair TDesign .nil),(.pair .bool .nil),[false],F_34 N,false⟩
theorem Z_34(N:Nat):SN 105 (S_34 N):=snd ⟨[((173,[]),S_31 N),((174,[]),S_32 N),((175,[]),S_33 N)],[],[],[],[]⟩ ⟨[(0,⟨[.tmp 6 tI,.row 2 .str],rG 41 17,[],[],[]⟩),(2,⟨[.tmp 8 tI,.row 3 .str],rG 58 17,[],[],[]⟩),(4,⟨[.tmp 10 tI,.row 4 tI],[11]++rG 93 24,[],[],[]⟩),(6,⟨[.tmp 12 tI,.row 4 tI],rG 117 25,[],[],[]⟩),(8,⟨[.tmp 13 tI],rG 142 11,[],[],[]⟩)],[],[],[]⟩ N ((q7 (Z_31 N) (cb Tryz.func173) (q7 (Z_32 N) (cb Tryz.func174) (q7 (Z_33 N) (cb Tryz.func175) q9)))) Tryz.func105
def S_35(N:Nat):FnSpec:=⟨.pair TWire tN,(.pair .bool .nil),[false],F_35 N,false⟩
theorem Z_35(N:Nat):SN 106 (S_35 N):=snd ⟨[((77,[]),S_22 N)],[],[],[],[]⟩ ⟨[(0,⟨[.tmp 6 tI],rG 38 54,[],[],[]⟩),(2,⟨[.tmp 7 tI],rG 92 16,[],[],[]⟩)],[],[],[]⟩ N ((q7 (Z_22 N) K_22 q9)) Tryz.func106
def S_36(N:Nat):FnSpec:=⟨.pair TBlock .nil,(.pair .bool .nil),[false],F_36 N,false⟩
theorem K_36:CB 52:=cb Tryz.func52
theorem Z_36(N:Nat):SN 52 (S_36 N):=snd ⟨[((105,[]),S_34 N),((106,[]),S_35 N),((107,[]),S_13 N)],[],[],[],[]⟩ ⟨[(0,⟨[.tmp 3 tI],rG 20 19,[],[],[]⟩)],[],[],[]⟩ N ((q7 (Z_34 N) (cb Tryz.func105) (q7 (Z_35 N) (cb Tryz.func106) (q7 (Z_13 N) K_13 q9)))) Tryz.func52
def S_37(N:Nat):FnSpec:=⟨.pair TDesign (.pair tI tN),tN,[false],F_37 N,false⟩
theorem Z_37(N:Nat):SN 132 (S_37 N):=snd ⟨[((99,[]),S_12 N)],[],[],[],[]⟩ ⟨[(0,⟨[.tmp 8 tI],rG 11 22,[],[],[]⟩)],[],[],[]⟩ N ((q7 (Z_12 N) K_12 q9)) Tryz.func132
def S_38(N:Nat):FnSpec:=⟨.pair TDesign tN,tN,[false],F_38 N,false⟩
theorem Z_38(N:Nat):SN 133 (S_38 N):=snd ⟨[((99,[]),S_12 N)],[],[],[],[]⟩ ⟨[(0,⟨[.tmp 6 tI],rG 9 20,[],[],[]⟩)],[],[],[]⟩ N ((q7 (Z_12 N) K_12 q9)) Tryz.func133
def S_39(N:Nat):FnSpec:=⟨.pair TBlock .nil,(.pair (.slice TLink) .nil),[true],F_39 N,false⟩
theorem KI_131:CB 131:=cb Tryz.func131
noncomputable def I_40:InF:=⟨131,Tryz.f131,⟨[(0,⟨[.tmp 11 tI,.row 1 TLink],rG 12 42,[],[],[]⟩),
 (2,⟨[.tmp 12 tI,.row 1 TLink],[],[],[],[]⟩)],[],[],[]⟩,[],true⟩
theorem KI_134:CB 134:=cb Tryz.func134
noncomputable def I_41:InF:=⟨134,Tryz.f134,⟨[],[],[],[]⟩,[],true⟩
theorem K_39:CB 65:=cb Tryz.func65
theorem Z_39(N:Nat):SN 65 (S_39 N):=snd ⟨[((107,[]),S_13 N),((132,[]),S_37 N),((133,[]),S_38 N)],[],[I_40,I_41],[],[]⟩ ⟨[(0,⟨[.tmp 5 tI,.row 1 TLink],[6,7,12]++rG 15 54,[],[],[]⟩),(2,⟨[.tmp 7 tI,.row 1 TLink],[],[],[],[]⟩),(4,⟨[.tmp 8 tI,.row 1 TLink],[9,10,11]++rG 69 35,[],[],[]⟩),(6,⟨[.tmp 11 tI,.row 1 TLink],[],[],[],[]⟩)],[],[],[]⟩ N ((q7 (Z_13 N) K_13 (q7 (Z_37 N) (cb Tryz.func132) (q7 (Z_38 N) (cb Tryz.func133) q9)))) Tryz.func65 (hi:=(q367 Tryz.func131 KI_131 (q367 Tryz.func134 KI_134 q590)))
def S_42(N:Nat):VioSpec:=⟨Tl01Source,(.pair TBlock .nil),(.pair (.slice tI) .nil),[],fun v x=>F_42 N (v,x),false⟩
noncomputable def L_42(N:Nat):MarkL:=[]
theorem Z_42(N:Nat):VioOk Tryz.prog 113 (S_42 N):=sndV ⟨[((52,[]),S_36 N),((65,[]),S_39 N)],[],[],[],[(40,.vio (S_1 N))]⟩ (L_42 N) ⟨[(0,⟨[.tmp 8 tI,.var 0 [some (.slice (.int .u8)),some tI,some tI],.row 3 tI],[9]++rG 28 13,[],[],[]⟩)],[],[],[]⟩ N ((q7 (Z_36 N) K_36 (q7 (Z_39 N) K_39 q9))) (q38) ((q25 (Z_1 N) K_1 q68)) Tryz.func113
def S_43(N:Nat):FnSpec:=⟨.pair (.slice tI) tN,(.pair .bool .nil),[false],F_43 N,false⟩
theorem K_43:CB 136:=cb Tryz.func136
theorem Z_43(N:Nat):SN 136 (S_43 N):=snd ⟨[],[],[],[],[]⟩ ⟨[(0,⟨[.tmp 5 tI],rG 6 12,[],[],[]⟩)],[],[],[]⟩ N q9 Tryz.func136
def S_44(N:Nat):FnSpec:=⟨.pair (.slice TLink) (.pair (.slice tI) .nil),(.pair (.slice .bool) .nil),[true],F_44 N,false⟩
theorem K_44:CB 67:=cb Tryz.func67
theorem Z_44(N:Nat):SN 67 (S_44 N):=snd ⟨[((136,[]),S_43 N)],[],[],[],[]⟩ ⟨[(0,⟨[.tmp 6 tI,.row 0 .bool],rG 7 14,[],[],[]⟩)],[],[],[]⟩ N ((q7 (Z_43 N) K_43 q9)) Tryz.func67
def S_45(N:Nat):FnSpec:=⟨.pair TBlock .nil,tN,[false],F_45 N,false⟩
theorem K_45:CB 49:=cb Tryz.func49
theorem Z_45(N:Nat):SN 49 (S_45 N):=snd ⟨[((99,[]),S_12 N)],[],[],[],[]⟩ ⟨[],[],[],[]⟩ N ((q7 (Z_12 N) K_12 q9)) Tryz.func49
def S_46(N:Nat):FnSpec:=⟨.pair tI (.pair (.slice TLink) (.pair (.slice .bool) (.pair tI (.pair .bool .nil)))),(.pair (.slice .bool) .nil),[true],F_46 N,false⟩
theorem Z_46(N:Nat):SN 244 (S_46 N):=snd ⟨[],[],[],[],[]⟩ ⟨[(0,⟨[.tmp 12 .bool,.row 0 .bool],[13,14,15]++rG 21 41,[],[],[]⟩),(2,⟨[.tmp 12 .bool,.tmp 13 tI,.row 0 .bool],[],[],[],[]⟩)],[],[],[]⟩ N q9 Tryz.func244
def S_47(N:Nat):FnSpec:=⟨.pair (.slice TLink) (.pair (.slice .bool) tN),(.pair .bool .nil),[false],F_47 N,false⟩
theorem Z_47(N:Nat):SN 245 (S_47 N):=snd ⟨[],[],[],[],[]⟩ ⟨[(0,⟨[.tmp 7 tI],rG 8 28,[],[],[]⟩)],[],[],[]⟩ N q9 Tryz.func245
def S_48(N:Nat):FnSpec:=⟨.pair tI (.pair (.slice TLink) (.pair (.slice .bool) .nil)),(.pair (.slice (.slice tI)) .nil),[true],F_48 N,true⟩
theorem Z_48(N:Nat):SN 180 (S_48 N):=snd ⟨[((244,[]),S_46 N),((245,[]),S_47 N)],[1000014],[],[],[]⟩ ⟨[(0,⟨[.tmp 9 tI,.drow 0 (.slice tI),.row 1 .bool],rG 17 9++rG 10 5++rG 26 37++rG 67 5++[63,64,65,66],[],[],[]⟩),(2,⟨[.tmp 13 tI,.row 1 .bool,.row 4 tI],[36],[],[],[]⟩)],[],[],[]⟩ N ((q7 (Z_46 N) (cb Tryz.func244) (q7 (Z_47 N) (cb Tryz.func245) q9))) Tryz.func180
def S_49(N:Nat):FnSpec:=⟨.pair TBlock .nil,(.pair (.slice tI) .nil),[true],F_49 N,false⟩
theorem Z_49(N:Nat):SN 114 (S_49 N):=snd ⟨[((49,[]),S_45 N),((65,[]),S_39 N),((67,[]),S_44 N),((136,[]),S_43 N),((180,[]),S_48 N)],[],[],[],[]⟩ ⟨[(0,⟨[.row 3 .bool],[6,7,8]++rG 18 51,[],[],[]⟩),(2,⟨[.tmp 7 tI,.tmp 8 tI],[],[],[],[]⟩),(4,⟨[.tmp 10 tI,.row 5 tI],rG 69 16,[],[],[]⟩)],[(1000002,[(6,none)])],[],[]⟩ N ((q7 (Z_45 N) K_45 (q7 (Z_39 N) K_39 (q7 (Z_44 N) K_44 (q7 (Z_43 N) K_43 (q7 (Z_48 N) (cb Tryz.func180) q9)))))) Tryz.func114
def S_50(N:Nat):VioSpec:=⟨Tl01Source,(.pair TBlock .nil),(.pair (.slice TSource) .nil),[],fun v x=>F_50 N (v,x),false⟩
noncomputable def L_50(N:Nat):MarkL:=[]
theorem Z_50(N:Nat):VioOk Tryz.prog 115 (S_50 N):=sndV ⟨[((52,[]),S_36 N),((99,[]),S_12 N)],[],[],[],[(40,.vio (S_1 N))]⟩ (L_50 N) ⟨[(0,⟨[.tmp 7 tI,.var 0 [some (.slice (.int .u8)),some tI,some tI],.row 3 TSource],[8,9,10,11,13]++rG 21 59,[],[],[]⟩),(2,⟨[.tmp 9 tI,.var 0 [some (.slice (.int .u8)),some tI,some tI],.row 3 TSource],[],[],[],[]⟩)],[],[],[]⟩ N ((q7 (Z_36 N) K_36 (q7 (Z_12 N) K_12 q9))) (q38) ((q25 (Z_1 N) K_1 q68)) Tryz.func115
def S_51(N:Nat):VioSpec:=⟨Tl01Source,.nil,(.pair TBlock (.pair TCorner (.pair (.slice tI) (.pair (.slice TSource) .nil)))),[],fun v x=>F_51 N (v,x),false⟩
noncomputable def L_51(N:Nat):MarkL:=[]
theorem Z_51(N:Nat):VioOk Tryz.prog 54 (S_51 N):=sndV ⟨[((52,[]),S_36 N),((114,[]),S_49 N)],[],[],[],[(40,.vio (S_1 N)),(110,.vio (S_19 N)),(111,.vio (S_20 N)),(112,.vio (S_17 N).data),(113,.vio (S_42 N)),(115,.vio (S_50 N))]⟩ (L_51 N) ⟨[],[],[],[]⟩ N ((q7 (Z_36 N) K_36 (q7 (Z_49 N) (cb Tryz.func114) q9))) (q38) ((q25 (Z_1 N) K_1 (q25 (Z_19 N) (cb Tryz.func110) (q25 (Z_20 N) (cb Tryz.func111) (q25 (Z_17 N).data K_17 (q25 (Z_42 N) (cb Tryz.func113) (q25 (Z_50 N) (cb Tryz.func115) q68))))))) Tryz.func54
def S_52(N:Nat):VioSpec:=⟨Tl01Source,.nil,(.pair (.slice TCorner) .nil),[],fun v x=>F_52 N (v,x),false⟩
noncomputable def L_52(N:Nat):MarkL:=[]
theorem Z_52(N:Nat):VioOk Tryz.prog 55 (S_52 N):=sndV ⟨[],[],[],[],[(40,.vio (S_1 N))]⟩ (L_52 N) ⟨[(0,⟨[.tmp 4 tI,.var 0 [some (.slice (.int .u8)),some tI,some tI],.row 2 TCorner],[5,6]++rG 10 35,[],[],[]⟩)],[],[],[]⟩ N (q9) (q38) ((q25 (Z_1 N) K_1 q68)) Tryz.func55
def S_53(N:Nat):FnSpec:=⟨.pair (.slice (.int .u8)) .nil,(.pair TBlock (.pair (.slice TCorner) (.pair (.slice tI) (.pair (.slice TSource) .nil)))),[false,false,false,false,false,false,false,false],F_53 N,false⟩
theorem KI_39:CB 39:=cb Tryz.func39
noncomputable def I_54:InF:=⟨39,Tryz.f39,⟨[(0,⟨[.tmp 4 tI,.var 2 [some (.slice (.int .u8)),some tI,some tI]],rG 8 25,[],[],[]⟩)],[],[],[]⟩,[],false⟩
noncomputable def L_53(N:Nat):MarkL:=[]
theorem Z_53(N:Nat):SN 14 (S_53 N):=sndX ⟨[],[],[I_54],[],[(54,.vio (S_51 N)),(55,.vio (S_52 N))]⟩ (L_53 N) ⟨[],[],[],[]⟩ N (q9) (q38) ((q25 (Z_51 N) (cb Tryz.func54) (q25 (Z_52 N) (cb Tryz.func55) q68))) Tryz.func14 (hi:=(q367 Tryz.func39 KI_39 q590))
def S_55(N:Nat):FnSpec:=⟨.pair tI (.pair tI tN),(.pair .bool .nil),[false],F_55 N,false⟩
theorem K_55:CB 119:=cb Tryz.func119
theorem Z_55(N:Nat):SN 119 (S_55 N):=snd ⟨[],[],[],[],[]⟩ ⟨[],[],[],[]⟩ N q9 Tryz.func119
def S_56(N:Nat):FnSpec:=⟨.pair .str .nil,(.pair .bool .nil),[false],F_56 N,false⟩
theorem K_56:CB 61:=cb Tryz.func61
theorem Z_56(N:Nat):SN 61 (S_56 N):=snd ⟨[((119,[]),S_55 N),((125,[]),q249 N),((126,[]),q135 N)],[],[],[],[]⟩ ⟨[],[],[],[]⟩ N ((q7 (Z_55 N) K_55 (q7 (q423 N) q420 (q7 (q260 N) q274 q9)))) Tryz.func61
def S_57(N:Nat):FnSpec:=⟨.pair (.slice TPin) .nil,tN,[false],F_57 N,false⟩
theorem K_57:CB 324:=cb Tryz.func324
theorem Z_57(N:Nat):SN 324 (S_57 N):=snd ⟨[],[],[],[],[]⟩ ⟨[],[],[],[]⟩ N q9 Tryz.func324
def S_58(N:Nat):FnSpec:=⟨.pair (.slice .str) (.pair .str .nil),tN,[false],F_58 N,false⟩
theorem Z_58(N:Nat):SN 91 (S_58 N):=snd ⟨[],[],[],[],[]⟩ ⟨[(0,⟨[.tmp 8 tI],[5]++rG 9 8++[18],[],[],[]⟩)],[],[],[]⟩ N q9 Tryz.func91
def S_59(N:Nat):FnSpec:=⟨.pair (.slice .str) (.pair .str .nil),(.pair .bool .nil),[false],F_59 N,false⟩
theorem Z_59(N:Nat):SN 188 (S_59 N):=snd ⟨[((91,[]),S_58 N)],[],[],[],[]⟩ ⟨[],[],[],[]⟩ N ((q7 (Z_58 N) (cb Tryz.func91) q9)) Tryz.func188
def S_60(N:Nat):FnSpec:=⟨.pair (.slice .str) .nil,(.pair .bool .nil),[false],F_60 N,false⟩
theorem K_60:CB 121:=cb Tryz.func121
theorem Z_60(N:Nat):SN 121 (S_60 N):=snd ⟨[((61,[]),S_56 N),((188,[]),S_59 N)],[],[],[],[]⟩ ⟨[(0,⟨[.tmp 7 tI],[3,4]++rG 8 15,[],[],[]⟩)],[],[],[]⟩ N ((q7 (Z_56 N) K_56 (q7 (Z_59 N) (cb Tryz.func188) q9))) Tryz.func121
def S_61(N:Nat):FnSpec:=⟨.pair (.slice TPin) .nil,(.pair .bool .nil),[false],F_61 N,false⟩
theorem Z_61(N:Nat):SN 297 (S_61 N):=snd ⟨[((119,[]),S_55 N),((121,[]),S_60 N),((324,[]),S_57 N)],[],[],[],[]⟩ ⟨[(0,⟨[.tmp 8 tI,.row 0 .str],[4,5]++rG 9 26++[44]++rG 35 9,[(3,.str),(3,.str)],[],[]⟩)],[],[],[]⟩ N ((q7 (Z_55 N) K_55 (q7 (Z_60 N) K_60 (q7 (Z_57 N) K_57 q9)))) Tryz.func297
def S_62(N:Nat):FnSpec:=⟨tN,(.pair .bool .nil),[false],F_62 N,false⟩
theorem Z_62(N:Nat):SN 345 (S_62 N):=snd ⟨[],[],[],[],[]⟩ ⟨[],[],[],[]⟩ N q9 Tryz.func345
def S_63(N:Nat):FnSpec:=⟨.pair (.slice tI) .nil,tN,[false],F_63 N,false⟩
theorem K_63:CB 167:=cb Tryz.func167
theorem Z_63(N:Nat):SN 167 (S_63 N):=snd ⟨[],[],[],[],[]⟩ ⟨[],[],[],[]⟩ N q9 Tryz.func167
def S_64(N:Nat):FnSpec:=⟨.pair tI (.pair (.ptr tI) (.pair (.ptr tI) .nil)),(.pair .bool .nil),[false],F_64 N,false⟩
theorem Z_64(N:Nat):SN 212 (S_64 N):=snd ⟨[((119,[]),S_55 N)],[],[],[],[]⟩ ⟨[],[],[],[]⟩ N ((q7 (Z_55 N) K_55 q9)) Tryz.func212
def S_65(N:Nat):FnSpec:=⟨.pair (.slice tI) (.pair (.clo 212 (.pair (.ptr tI) (.pair (.ptr tI) .nil))) .nil),tN,[false],F_65 N,false⟩
theorem Z_65(N:Nat):SN 267 (S_65 N):=snd ⟨[((212,[]),S_64 N)],[],[],[],[]⟩ ⟨[(0,⟨[.tmp 8 tI],[5]++rG 9 8++[18],[],[],[]⟩)],[],[],[]⟩ N ((q7 (Z_64 N) (cb Tryz.func212) q9)) Tryz.func267
def S_66(N:Nat):FnSpec:=⟨.pair (.slice tI) (.pair (.clo 212 (.pair (.ptr tI) (.pair (.ptr tI) .nil))) .nil),(.pair .bool .nil),[false],F_66 N,false⟩
theorem Z_66(N:Nat):SN 211 (S_66 N):=snd ⟨[((267,[212]),S_65 N)],[],[],[],[]⟩ ⟨[],[],[],[]⟩ N ((q7 (Z_65 N) (cb Tryz.func267) q9)) Tryz.func211
def S_67(N:Nat):FnSpec:=⟨.pair (.slice tI) (.pair tI tN),(.pair .bool .nil),[false],F_67 N,false⟩
theorem K_67:CB 144:=cb Tryz.func144
theorem Z_67(N:Nat):SN 144 (S_67 N):=snd ⟨[((211,[212]),S_66 N)],[],[],[],[]⟩ ⟨[],[(1,[(4,some tI),(5,some tI)])],[],[]⟩ N ((q7 (Z_66 N) (cb Tryz.func211) q9)) Tryz.func144
def S_68(N:Nat):FnSpec:=⟨.pair (.slice tI) .nil,(.pair .bool .nil),[false],F_68 N,false⟩
theorem K_68:CB 252:=cb Tryz.func252
theorem Z_68(N:Nat):SN 252 (S_68 N):=snd ⟨[],[],[],[],[]⟩ ⟨[(0,⟨[.tmp 3 tI],rG 4 16,[],[],[]⟩)],[],[],[]⟩ N q9 Tryz.func252
def S_69(N:Nat):FnSpec:=⟨.pair (.slice tI) .nil,(.pair .bool .nil),[false],F_69 N,false⟩
theorem Z_69(N:Nat):SN 371 (S_69 N):=snd ⟨[((119,[]),S_55 N),((144,[]),S_67 N),((167,[]),S_63 N),((252,[]),S_68 N)],[],[],[],[]⟩ ⟨[],[],[],[]⟩ N ((q7 (Z_55 N) K_55 (q7 (Z_67 N) K_67 (q7 (Z_63 N) K_63 (q7 (Z_68 N) K_68 q9))))) Tryz.func371
def S_70(N:Nat):FnSpec:=⟨.pair TTable .nil,(.pair .bool .nil),[false],F_70 N,false⟩
theorem Z_70(N:Nat):SN 363 (S_70 N):=snd ⟨[((144,[]),S_67 N),((371,[]),S_69 N)],[],[],[],[]⟩ ⟨[],[],[],[]⟩ N ((q7 (Z_67 N) K_67 (q7 (Z_69 N) (cb Tryz.func371) q9))) Tryz.func363
def S_71(N:Nat):FnSpec:=⟨.pair (.slice tI) .nil,tN,[false],F_71 N,false⟩
theorem Z_71(N:Nat):SN 364 (S_71 N):=snd ⟨[],[],[],[],[]⟩ ⟨[(0,⟨[.tmp 3 tI,.tmp 4 tI],rG 12 12,[],[],[]⟩)],[],[],[]⟩ N q9 Tryz.func364
def S_72(N:Nat):FnSpec:=⟨.pair TTable (.pair (.ptr .bool) .nil),(.pair .bool .nil),[false],F_72 N,false⟩
theorem Z_72(N:Nat):SN 362 (S_72 N):=snd ⟨[((363,[]),S_70 N),((364,[]),S_71 N)],[],[],[],[]⟩ ⟨[],[],[],[]⟩ N ((q7 (Z_70 N) (cb Tryz.func363) (q7 (Z_71 N) (cb Tryz.func364) q9))) Tryz.func362
def S_73(N:Nat):FnSpec:=⟨.pair (.slice TTable) (.pair (.clo 362 (.pair (.ptr .bool) .nil)) .nil),tN,[false],F_73 N,false⟩
theorem Z_73(N:Nat):SN 370 (S_73 N):=snd ⟨[((362,[]),S_72 N)],[],[],[],[]⟩ ⟨[(0,⟨[.tmp 8 tI],[5]++rG 9 8++[18],[],[],[]⟩)],[],[],[]⟩ N ((q7 (Z_72 N) (cb Tryz.func362) q9)) Tryz.func370
def S_74(N:Nat):FnSpec:=⟨.pair (.slice TTable) (.pair (.clo 362 (.pair (.ptr .bool) .nil)) .nil),(.pair .bool .nil),[false],F_74 N,false⟩
theorem Z_74(N:Nat):SN 361 (S_74 N):=snd ⟨[((370,[362]),S_73 N)],[],[],[],[]⟩ ⟨[],[],[],[]⟩ N ((q7 (Z_73 N) (cb Tryz.func370) q9)) Tryz.func361
def S_75(N:Nat):FnSpec:=⟨.pair (.slice TTable) (.pair .bool .nil),(.pair .bool .nil),[false],F_75 N,false⟩
theorem Z_75(N:Nat):SN 346 (S_75 N):=snd ⟨[((361,[362]),S_74 N)],[],[],[],[]⟩ ⟨[],[(1,[(3,some .bool)])],[],[]⟩ N ((q7 (Z_74 N) (cb Tryz.func361) q9)) Tryz.func346
def S_76(N:Nat):FnSpec:=⟨.pair TPin .nil,(.pair .bool .nil),[false],F_76 N,false⟩
theorem Z_76(N:Nat):SN 366 (S_76 N):=snd ⟨[],[],[],[],[]⟩ ⟨[],[],[],[]⟩ N q9 Tryz.func366
def S_77(N:Nat):FnSpec:=⟨.pair (.slice TPin) (.pair (.clo 366 .nil) .nil),tN,[false],F_77 N,false⟩
theorem Z_77(N:Nat):SN 365 (S_77 N):=snd ⟨[((366,[]),S_76 N)],[],[],[],[]⟩ ⟨[(0,⟨[.tmp 8 tI],[5]++rG 9 8++[18],[],[],[]⟩)],[],[],[]⟩ N ((q7 (Z_76 N) (cb Tryz.func366) q9)) Tryz.func365
def S_78(N:Nat):FnSpec:=⟨.pair TCell .nil,tN,[false],F_78 N,false⟩
theorem Z_78(N:Nat):SN 347 (S_78 N):=snd ⟨[((365,[366]),S_77 N)],[],[],[],[]⟩ ⟨[],[],[],[]⟩ N ((q7 (Z_77 N) (cb Tryz.func365) q9)) Tryz.func347
def S_79(N:Nat):FnSpec:=⟨.pair TCell .nil,tN,[false],F_79 N,false⟩
theorem K_79:CB 328:=cb Tryz.func328
theorem Z_79(N:Nat):SN 328 (S_79 N):=snd ⟨[((324,[]),S_57 N)],[],[],[],[]⟩ ⟨[],[],[],[]⟩ N ((q7 (Z_57 N) K_57 q9)) Tryz.func328
def S_80(N:Nat):FnSpec:=⟨.pair TCell tN,(.pair .bool .nil),[false],F_80 N,false⟩
theorem Z_80(N:Nat):SN 348 (S_80 N):=snd ⟨[((119,[]),S_55 N),((328,[]),S_79 N)],[],[],[],[]⟩ ⟨[],[],[],[]⟩ N ((q7 (Z_55 N) K_55 (q7 (Z_79 N) K_79 q9))) Tryz.func348
def S_81(N:Nat):FnSpec:=⟨.pair TCell (.pair TArc .nil),(.pair .bool .nil),[false],F_81 N,false⟩
theorem Z_81(N:Nat):SN 325 (S_81 N):=snd ⟨[((119,[]),S_55 N),((328,[]),S_79 N),((345,[]),S_62 N),((346,[]),S_75 N),((347,[]),S_78 N),((348,[]),S_80 N)],[],[],[],[]⟩ ⟨[],[],[],[]⟩ N ((q7 (Z_55 N) K_55 (q7 (Z_79 N) K_79 (q7 (Z_62 N) (cb Tryz.func345) (q7 (Z_75 N) (cb Tryz.func346) (q7 (Z_78 N) (cb Tryz.func347) (q7 (Z_80 N) (cb Tryz.func348) q9))))))) Tryz.func325
def S_82(N:Nat):FnSpec:=⟨.pair TArc (.pair (.ptr TArc) .nil),(.pair .bool .nil),[false],F_82 N,false⟩
theorem Z_82(N:Nat):SN 327 (S_82 N):=snd ⟨[],[],[],[],[]⟩ ⟨[],[],[],[]⟩ N q9 Tryz.func327
def S_83(N:Nat):FnSpec:=⟨.pair (.slice TArc) (.pair (.clo 327 (.pair (.ptr TArc) .nil)) .nil),tN,[false],F_83 N,false⟩
theorem Z_83(N:Nat):SN 349 (S_83 N):=snd ⟨[((327,[]),S_82 N)],[],[],[],[]⟩ ⟨[(0,⟨[.tmp 8 tI],[5]++rG 9 8++[18],[],[],[]⟩)],[],[],[]⟩ N ((q7 (Z_82 N) (cb Tryz.func327) q9)) Tryz.func349
def S_84(N:Nat):FnSpec:=⟨.pair (.slice TArc) (.pair (.clo 327 (.pair (.ptr TArc) .nil)) .nil),(.pair .bool .nil),[false],F_84 N,false⟩
theorem Z_84(N:Nat):SN 326 (S_84 N):=snd ⟨[((349,[327]),S_83 N)],[],[],[],[]⟩ ⟨[],[],[],[]⟩ N ((q7 (Z_83 N) (cb Tryz.func349) q9)) Tryz.func326
def S_85(N:Nat):FnSpec:=⟨.pair TCell .nil,(.pair .bool .nil),[false],F_85 N,false⟩
theorem Z_85(N:Nat):SN 298 (S_85 N):=snd ⟨[((325,[]),S_81 N),((326,[327]),S_84 N)],[],[],[],[]⟩ ⟨[(0,⟨[.tmp 8 tI],[3,4]++rG 9 17,[],[],[]⟩)],[(4,[(4,some TArc)])],[],[]⟩ N ((q7 (Z_81 N) (cb Tryz.func325) (q7 (Z_84 N) (cb Tryz.func326) q9))) Tryz.func298
def S_86(N:Nat):FnSpec:=⟨.pair TArc (.pair (.ptr tI) .nil),(.pair .bool .nil),[false],F_86 N,false⟩
theorem Z_86(N:Nat):SN 350 (S_86 N):=snd ⟨[],[],[],[],[]⟩ ⟨[],[],[],[]⟩ N q9 Tryz.func350
def S_87(N:Nat):FnSpec:=⟨.pair (.slice TArc) (.pair (.clo 350 (.pair (.ptr tI) .nil)) .nil),tN,[false],F_87 N,false⟩
theorem Z_87(N:Nat):SN 349 (S_87 N):=snd ⟨[((350,[]),S_86 N)],[],[],[],[]⟩ ⟨[(0,⟨[.tmp 8 tI],[5]++rG 9 8++[18],[],[],[]⟩)],[],[],[]⟩ N ((q7 (Z_86 N) (cb Tryz.func350) q9)) Tryz.func349
def S_88(N:Nat):FnSpec:=⟨.pair (.slice TArc) (.pair (.clo 350 (.pair (.ptr tI) .nil)) .nil),(.pair .bool .nil),[false],F_88 N,false⟩
theorem Z_88(N:Nat):SN 326 (S_88 N):=snd ⟨[((349,[350]),S_87 N)],[],[],[],[]⟩ ⟨[],[],[],[]⟩ N ((q7 (Z_87 N) (cb Tryz.func349) q9)) Tryz.func326
def S_89(N:Nat):FnSpec:=⟨.pair TCell tN,(.pair .bool .nil),[false],F_89 N,false⟩
theorem Z_89(N:Nat):SN 329 (S_89 N):=snd ⟨[((326,[350]),S_88 N)],[],[],[],[]⟩ ⟨[],[(1,[(3,some tI)])],[],[]⟩ N ((q7 (Z_88 N) (cb Tryz.func326) q9)) Tryz.func329
def S_90(N:Nat):FnSpec:=⟨.pair TCell .nil,(.pair .bool .nil),[false],F_90 N,false⟩
theorem Z_90(N:Nat):SN 299 (S_90 N):=snd ⟨[((144,[]),S_67 N),((328,[]),S_79 N),((329,[]),S_89 N)],[],[],[],[]⟩ ⟨[(0,⟨[.tmp 3 tI,.tmp 9 tI],[5]++rG 10 8,[],[],[]⟩)],[],[],[]⟩ N ((q7 (Z_67 N) K_67 (q7 (Z_79 N) K_79 (q7 (Z_89 N) (cb Tryz.func329) q9)))) Tryz.func299
def S_91(N:Nat):FnSpec:=⟨.pair TCell .nil,(.pair .bool .nil),[false],F_91 N,false⟩
theorem Z_91(N:Nat):SN 246 (S_91 N):=snd ⟨[((61,[]),S_56 N),((119,[]),S_55 N),((297,[]),S_61 N),((298,[]),S_85 N),((299,[]),S_90 N)],[],[],[],[]⟩ ⟨[],[],[],[]⟩ N ((q7 (Z_56 N) K_56 (q7 (Z_55 N) K_55 (q7 (Z_61 N) (cb Tryz.func297) (q7 (Z_85 N) (cb Tryz.func298) (q7 (Z_90 N) (cb Tryz.func299) q9)))))) Tryz.func246
def S_92(N:Nat):FnSpec:=⟨.pair TLibrary .nil,(.pair .bool .nil),[false],F_92 N,false⟩
theorem Z_92(N:Nat):SN 181 (S_92 N):=snd ⟨[((121,[]),S_60 N),((246,[]),S_91 N)],[],[],[],[]⟩ ⟨[(0,⟨[.tmp 9 tI,.row 1 .str],[5]++rG 10 12,[(3,.str)],[],[]⟩)],[],[],[]⟩ N ((q7 (Z_60 N) K_60 (q7 (Z_91 N) (cb Tryz.func246) q9))) Tryz.func181
def S_93(N:Nat):FnSpec:=⟨.pair TDesign .nil,(.pair .bool .nil),[false],F_93 N,false⟩
theorem Z_93(N:Nat):SN 182 (S_93 N):=snd ⟨[((121,[]),S_60 N)],[],[],[],[]⟩ ⟨[(0,⟨[.tmp 12 tI,.row 1 .str],[6]++rG 13 9,[(3,.str)],[],[]⟩),(2,⟨[.tmp 25 tI,.row 2 .str],[8]++rG 26 9,[(4,.str)],[],[]⟩)],[],[],[]⟩ N ((q7 (Z_60 N) K_60 q9)) Tryz.func182
def S_94(N:Nat):FnSpec:=⟨.pair (.slice TCell) .nil,tN,[false],F_94 N,false⟩
theorem Z_94(N:Nat):SN 247 (S_94 N):=snd ⟨[],[],[],[],[]⟩ ⟨[],[],[],[]⟩ N q9 Tryz.func247
def S_95(N:Nat):FnSpec:=⟨.pair (.slice .str) .nil,tN,[false],F_95 N,false⟩
theorem Z_95(N:Nat):SN 249 (S_95 N):=snd ⟨[],[],[],[],[]⟩ ⟨[],[],[],[]⟩ N q9 Tryz.func249
def S_96(N:Nat):FnSpec:=⟨.pair TDesign tN,(.pair .bool .nil),[false],F_96 N,false⟩
theorem K_96:CB 184:=cb Tryz.func184
theorem Z_96(N:Nat):SN 184 (S_96 N):=snd ⟨[((119,[]),S_55 N),((249,[]),S_95 N)],[],[],[],[]⟩ ⟨[],[],[],[]⟩ N ((q7 (Z_55 N) K_55 (q7 (Z_95 N) (cb Tryz.func249) q9))) Tryz.func184
def S_97(N:Nat):FnSpec:=⟨.pair tI (.pair (.ptr TDesign) .nil),(.pair .bool .nil),[false],F_97 N,false⟩
theorem Z_97(N:Nat):SN 248 (S_97 N):=snd ⟨[((184,[]),S_96 N)],[],[],[],[]⟩ ⟨[],[],[],[]⟩ N ((q7 (Z_96 N) K_96 q9)) Tryz.func248
def S_98(N:Nat):FnSpec:=⟨.pair (.slice tI) (.pair (.clo 248 (.pair (.ptr TDesign) .nil)) .nil),tN,[false],F_98 N,false⟩
theorem Z_98(N:Nat):SN 267 (S_98 N):=snd ⟨[((248,[]),S_97 N)],[],[],[],[]⟩ ⟨[(0,⟨[.tmp 8 tI],[5]++rG 9 8++[18],[],[],[]⟩)],[],[],[]⟩ N ((q7 (Z_97 N) (cb Tryz.func248) q9)) Tryz.func267
def S_99(N:Nat):FnSpec:=⟨.pair (.slice tI) (.pair (.clo 248 (.pair (.ptr TDesign) .nil)) .nil),(.pair .bool .nil),[false],F_99 N,false⟩
theorem Z_99(N:Nat):SN 211 (S_99 N):=snd ⟨[((267,[248]),S_98 N)],[],[],[],[]⟩ ⟨[],[],[],[]⟩ N ((q7 (Z_98 N) (cb Tryz.func267) q9)) Tryz.func211
def S_100(N:Nat):FnSpec:=⟨.pair TDesign (.pair TLibrary (.pair TInstance .nil)),(.pair .bool .nil),[false],F_100 N,false⟩
theorem Z_100(N:Nat):SN 183 (S_100 N):=snd ⟨[((119,[]),S_55 N),((211,[248]),S_99 N),((247,[]),S_94 N)],[],[],[],[]⟩ ⟨[],[(1,[(3,some TDesign)])],[],[]⟩ N ((q7 (Z_55 N) K_55 (q7 (Z_99 N) (cb Tryz.func211) (q7 (Z_94 N) (cb Tryz.func247) q9)))) Tryz.func183
def S_101(N:Nat):FnSpec:=⟨tN,(.pair .bool .nil),[false],F_101 N,false⟩
theorem Z_101(N:Nat):SN 186 (S_101 N):=snd ⟨[],[],[],[],[]⟩ ⟨[],[],[],[]⟩ N q9 Tryz.func186
def S_102(N:Nat):FnSpec:=⟨.pair (.slice tI) (.pair (.clo 186 .nil) .nil),tN,[false],F_102 N,false⟩
theorem Z_102(N:Nat):SN 250 (S_102 N):=snd ⟨[((186,[]),S_101 N)],[],[],[],[]⟩ ⟨[(0,⟨[.tmp 8 tI],[5]++rG 9 8++[18],[],[],[]⟩)],[],[],[]⟩ N ((q7 (Z_101 N) (cb Tryz.func186) q9)) Tryz.func250
def S_103(N:Nat):FnSpec:=⟨.pair (.slice tI) (.pair (.clo 186 .nil) .nil),(.pair .bool .nil),[false],F_103 N,false⟩
theorem Z_103(N:Nat):SN 185 (S_103 N):=snd ⟨[((250,[186]),S_102 N)],[],[],[],[]⟩ ⟨[],[],[],[]⟩ N ((q7 (Z_102 N) (cb Tryz.func250) q9)) Tryz.func185
end Go.Proofs.YtcmhpcoiomdekaaGreatDoor
