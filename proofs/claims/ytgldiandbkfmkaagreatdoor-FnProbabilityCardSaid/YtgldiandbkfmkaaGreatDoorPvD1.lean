/- The functions' contracts. Printed by my dec.py. No condition of its own. -/
import Derived.Test.YtgldiandbkfmkaaGreatDoorPgL
import Derived.Test.YtgldiandbkfmkaaGreatDoorPvF1
import Derived.Test.YtgldiandbkfmkaaGreatDoorProg
import Derived.Test.YtgldiandbkfmkaaGreatDoorPgG
namespace Go.Proofs.YtgldiandbkfmkaaGreatDoor
abbrev tI:Ty:=.int .i64
abbrev tN:Ty:=.pair tI .nil
abbrev rG:=List.range'
open Go.RowKit
set_option maxRecDepth 100000
set_option linter.unusedVariables false
abbrev CB(f:FuncId):Prop:=q15 Tryz.prog f
theorem cb{f : FuncId}{fn : Func}(h : Tryz.prog.funcs[f]? = some fn)(h1 : fn.body.isNone = false := by kernel_rfl)(h2 : (fn.name == "runtime.NumGoroutine") = false := by kernel_rfl) : CB f := ⟨_, h, h1, h2⟩
abbrev SN(f:FuncId)(S:FnSpec):Prop:=Sound Tryz.prog PRE f S
theorem snd(C:Ctx)(H:Hints)(N:Nat){f:FuncId}{fn:Func}{S:FnSpec}(hc:∀ p∈C.fns,Sound Tryz.prog PRE p.1.1 p.2/\q15 Tryz.prog p.1.1)(hf:Tryz.prog.funcs[f]?=some fn)(hm:Tryz.prog.follows .mixedOrders=true:=by kernel_rfl)(hp:q86 S.ps=true:=by kernel_rfl)
 (h:∀ x,pevFn Tryz.prog C N H S fn x=S.fn x:=by intro x; kernel_rfl) (hi:∀ x∈C.inl,Tryz.prog.funcs[x.fid]?=some x.fn/\q15 Tryz.prog x.fid:=by intro x hx; cases hx) (ht:∀ w,PRE w->TabsAt C.tabs w:=by exact fun w _=>q178 w) (hio:∀ p∈C.io,HookOk Tryz.prog p.1 p.2/\q15 Tryz.prog p.1:=by intro p hp; cases hp):SN f S:=
 q590 (C:=C) (H:=H) (N:=N) (q495 q499 hm hc hi ht hio) hf hp (fun x r k=>(h x).trans k)
theorem sndX(C:Ctx)(L:MarkL)(H:Hints)(N:Nat){f:FuncId}{fn:Func}{S:FnSpec}(hc:∀ p∈C.fns,Sound Tryz.prog PRE p.1.1 p.2/\q15 Tryz.prog p.1.1)(hL:∀ p∈L,MarkOk Tryz.prog p.1 p.2/\q15 Tryz.prog p.1)(hio:∀ p∈C.io,HookOk Tryz.prog p.1 p.2/\q15 Tryz.prog p.1)(hf:Tryz.prog.funcs[f]?=some fn)(hm:Tryz.prog.follows .mixedOrders=true:=by kernel_rfl)(hp:q86 S.ps=true:=by kernel_rfl)
 (h:∀ x,pevFnX Tryz.prog C L N H S fn x=S.fn x:=by intro x; kernel_rfl) (hi:∀ x∈C.inl,Tryz.prog.funcs[x.fid]?=some x.fn/\q15 Tryz.prog x.fid:=by intro x hx; cases hx) (ht:∀ w,PRE w->TabsAt C.tabs w:=by exact fun w _=>q178 w):SN f S:=
 q527 (C:=C) (H:=H) (N:=N) (L:=L) (q495 q499 hm hc hi ht hio) hL hf hp (fun x r k=>(h x).trans k)
theorem sndIO(C:Ctx)(L:MarkL)(H:Hints)(N:Nat){f:FuncId}{fn:Func}{S:IoSpec}(hc:∀ p∈C.fns,Sound Tryz.prog PRE p.1.1 p.2/\q15 Tryz.prog p.1.1)(hL:∀ p∈L,MarkOk Tryz.prog p.1 p.2/\q15 Tryz.prog p.1)(hio:∀ p∈C.io,HookOk Tryz.prog p.1 p.2/\q15 Tryz.prog p.1)(hf:Tryz.prog.funcs[f]?=some fn)(hm:Tryz.prog.follows .mixedOrders=true:=by kernel_rfl)
 (h:∀ x,q656 Tryz.prog C L N H S fn x=S.fn x:=by intro x; kernel_rfl) (hi:∀ x∈C.inl,Tryz.prog.funcs[x.fid]?=some x.fn/\q15 Tryz.prog x.fid:=by intro x hx; cases hx) (ht:∀ w,PRE w->TabsAt C.tabs w:=by exact fun w _=>q178 w) (hT:∀ w,PRE w:=by exact fun _=>trivial):IoOk Tryz.prog f S:=
 q828 (C:=C) (H:=H) (N:=N) (L:=L) (q495 q499 hm hc hi ht hio) hT hL hf (fun x r k=>(h x).trans k)
theorem sndV(C:Ctx)(L:MarkL)(H:Hints)(N:Nat){f:FuncId}{fn:Func}{S:VioSpec}(hc:∀ p∈C.fns,Sound Tryz.prog PRE p.1.1 p.2/\q15 Tryz.prog p.1.1)(hL:∀ p∈L,MarkOk Tryz.prog p.1 p.2/\q15 Tryz.prog p.1)(hio:∀ p∈C.io,HookOk Tryz.prog p.1 p.2/\q15 Tryz.prog p.1)(hf:Tryz.prog.funcs[f]?=some fn)(hm:Tryz.prog.follows .mixedOrders=true:=by kernel_rfl)
 (h:∀ v x,pevFnV Tryz.prog C L N H S fn v x=S.fn v x:=by intro v x; kernel_rfl) (hi:∀ x∈C.inl,Tryz.prog.funcs[x.fid]?=some x.fn/\q15 Tryz.prog x.fid:=by intro x hx; cases hx) (ht:∀ w,PRE w->TabsAt C.tabs w:=by exact fun w _=>q178 w) (hT:∀ w,PRE w:=by exact fun _=>trivial):VioOk Tryz.prog f S:=
 q732 (C:=C) (H:=H) (N:=N) (L:=L) (q495 q499 hm hc hi ht hio) hT hL hf (fun v x r k=>(h v x).trans k)
def S_0(N:Nat):FnSpec:=⟨.pair (.slice (.int .u8)) .nil,(.pair .bool .nil),[false],F_0 N,false⟩
theorem Z_0(N:Nat):SN 9 (S_0 N):=snd ⟨[],[],[],[],[]⟩ ⟨[],[],[],[]⟩ N q11 Tryz.func9
def S_1(N:Nat):VioSpec:=⟨Tl01Source,tN,tN,[],fun v x=>F_1 N (v,x),false⟩
theorem K_1:CB 45:=cb Tryz.func45
noncomputable def L_1(N:Nat):MarkL:=[]
theorem Z_1(N:Nat):VioOk Tryz.prog 45 (S_1 N):=sndV ⟨[],[],[],[],[]⟩ (L_1 N) ⟨[],[],[],[]⟩ N (q11) (q32) (q54) Tryz.func45
def S_2(N:Nat):FnSpec:=⟨.pair TCell tN,tN,[false],F_2 N,false⟩
theorem Z_2(N:Nat):SN 223 (S_2 N):=snd ⟨[],[],[],[],[]⟩ ⟨[(0,⟨[.tmp 8 tI,.tmp 5 .bool,.tmp 6 .bool],rG 12 43,[],[],[]⟩)],[],[],[]⟩ N q11 Tryz.func223
def S_3(N:Nat):VioSpec:=⟨Tl01Source,tN,(.pair (.slice tI) .nil),[],fun v x=>F_3 N (v,x),false⟩
noncomputable def L_3(N:Nat):MarkL:=[]
theorem Z_3(N:Nat):VioOk Tryz.prog 279 (S_3 N):=sndV ⟨[],[],[],[],[(45,.vio (S_1 N))]⟩ (L_3 N) ⟨[(0,⟨[.tmp 6 tI,.tmp 7 tI,.var 0 [some (.slice (.int .u8)),some tI,some tI],.row 2 tI],[8]++rG 15 14,[],[],[]⟩)],[],[],[]⟩ N (q11) (q32) ((q23 (Z_1 N) K_1 q54)) Tryz.func279
def S_4(N:Nat):VioSpec:=⟨Tl01Source,tN,(.pair TTable .nil),[],fun v x=>F_4 N (v,x),false⟩
noncomputable def L_4(N:Nat):MarkL:=[]
theorem Z_4(N:Nat):VioOk Tryz.prog 263 (S_4 N):=sndV ⟨[],[],[],[],[(45,.vio (S_1 N)),(279,.vio (S_3 N))]⟩ (L_4 N) ⟨[(0,⟨[.tmp 9 tI,.var 0 [some (.slice (.int .u8)),some tI,some tI],.row 3 tI],[10,15]++rG 18 44,[],[],[]⟩)],[],[],[]⟩ N (q11) (q32) ((q23 (Z_1 N) K_1 (q23 (Z_3 N) (cb Tryz.func279) q54))) Tryz.func263
def S_5(N:Nat):VioSpec:=⟨Tl01Source,tN,(.pair (.slice TTable) .nil),[],fun v x=>F_5 N (v,x),false⟩
noncomputable def L_5(N:Nat):MarkL:=[]
theorem Z_5(N:Nat):VioOk Tryz.prog 247 (S_5 N):=sndV ⟨[],[],[],[],[(263,.vio (S_4 N))]⟩ (L_5 N) ⟨[],[],[],[]⟩ N (q11) (q32) ((q23 (Z_4 N) (cb Tryz.func263) q54)) Tryz.func247
def S_6(N:Nat):VioSpec:=⟨Tl01Source,(.pair tI (.pair tI (.pair tI tN))),(.pair TArc .nil),[],fun v x=>F_6 N (v,x),false⟩
theorem K_6:CB 224:=cb Tryz.func224
noncomputable def L_6(N:Nat):MarkL:=[]
theorem Z_6(N:Nat):VioOk Tryz.prog 224 (S_6 N):=sndV ⟨[],[],[],[],[(45,.vio (S_1 N)),(247,.vio (S_5 N))]⟩ (L_6 N) ⟨[],[],[],[]⟩ N (q11) (q32) ((q23 (Z_1 N) K_1 (q23 (Z_5 N) (cb Tryz.func247) q54))) Tryz.func224
def S_7(N:Nat):VioSpec:=⟨Tl01Source,(.pair .str (.pair (.slice tI) .nil)),(.pair TCell .nil),[],fun v x=>F_7 N (v,x),false⟩
noncomputable def L_7(N:Nat):MarkL:=[]
theorem Z_7(N:Nat):VioOk Tryz.prog 190 (S_7 N):=sndV ⟨[((223,[]),S_2 N)],[],[],[],[(45,.vio (S_1 N)),(224,.vio (S_6 N))]⟩ (L_7 N) ⟨[(0,⟨[.tmp 10 tI,.var 0 [some (.slice (.int .u8)),some tI,some tI],.row 5 TPin],rG 23 19,[],[],[]⟩),(2,⟨[.tmp 13 tI,.var 0 [some (.slice (.int .u8)),some tI,some tI],.row 7 TArc],[14]++rG 49 19,[],[],[]⟩)],[],[],[]⟩ N ((q8 (Z_2 N) (cb Tryz.func223) q11)) (q32) ((q23 (Z_1 N) K_1 (q23 (Z_6 N) K_6 q54))) Tryz.func190
def S_8(N:Nat):VioSpec:=⟨Tl01Source,(.pair .str (.pair tI tN)),(.pair TCell .nil),[],fun v x=>F_8 N (v,x),false⟩
noncomputable def L_8(N:Nat):MarkL:=[]
theorem Z_8(N:Nat):VioOk Tryz.prog 191 (S_8 N):=sndV ⟨[],[],[],[],[(45,.vio (S_1 N)),(224,.vio (S_6 N))]⟩ (L_8 N) ⟨[],[],[],[]⟩ N (q11) (q32) ((q23 (Z_1 N) K_1 (q23 (Z_6 N) K_6 q54))) Tryz.func191
def S_9(N:Nat):VioSpec:=⟨Tl01Source,.nil,(.pair TLibrary .nil),[],fun v x=>F_9 N (v,x),false⟩
noncomputable def L_9(N:Nat):MarkL:=[]
theorem Z_9(N:Nat):VioOk Tryz.prog 152 (S_9 N):=sndV ⟨[],[14,17,20,23,26],[],[],[(190,.vio (S_7 N)),(191,.vio (S_8 N))]⟩ (L_9 N) ⟨[],[],[],[]⟩ N (q11) (q32) ((q23 (Z_7 N) (cb Tryz.func190) (q23 (Z_8 N) (cb Tryz.func191) q54))) Tryz.func152
def S_10(N M:Nat):FnSpec:=⟨tN,(.pair .str .nil),[false],F_10 N M,false⟩
noncomputable def C_10(N M:Nat):Ctx:=⟨[((192,[]),S_10 N M)],[],[],[],[]⟩
theorem K_10:CB 192:=cb Tryz.func192
theorem Z_10(N:Nat):∀ M,SN 192 (S_10 N M)
 | 0=>fun w args x r ok _ _ _ h=>nomatch (show none=some r from h)
 | M+1=>snd (C_10 N M) ⟨[],[],[],[]⟩ N (q8 (Z_10 N M) K_10 q11) Tryz.func192
def S_11(N:Nat):VioSpec:=⟨Tl01Source,(.pair tI (.pair .bool .nil)),(.pair TDesign .nil),[true,true,true],fun v x=>F_11 N (v,x),true⟩
noncomputable def L_11(N:Nat):MarkL:=[]
theorem Z_11(N:Nat):VioOk Tryz.prog 153 (S_11 N):=sndV ⟨[((192,[]),S_10 N N)],[1000026],[],[],[(45,.vio (S_1 N))]⟩ (L_11 N) ⟨[(0,⟨[.tmp 11 tI,.var 0 [some (.slice (.int .u8)),some tI,some tI],.drow 7 TInstance,.row 8 .str],[12,13,14,15,26,30]++rG 36 70,[],[],[]⟩),(2,⟨[.tmp 14 tI,.var 0 [some (.slice (.int .u8)),some tI,some tI],.var 10 [some .str,some tI,none],.row 11 tI],[],[],[(10,2,tI),(10,2,tI),(10,2,tI),(10,2,tI),(10,2,tI),(10,2,tI)],[(10,2,11)]⟩),(4,⟨[.tmp 16 tI,.var 0 [some (.slice (.int .u8)),some tI,some tI],.drow 7 TInstance],rG 106 17++[129,130]++rG 132 14++rG 123 6++[131],[],[],[]⟩)],[],[],[]⟩ N ((q8 (Z_10 N N) K_10 q11)) (q32) ((q23 (Z_1 N) K_1 q54)) Tryz.func153
def S_12(N:Nat):FnSpec:=⟨.pair TDesign .nil,(.pair (.slice Tl05Place) .nil),[true],F_12 N,false⟩
theorem K_12:CB 133:=cb Tryz.func133
theorem Z_12(N:Nat):SN 133 (S_12 N):=snd ⟨[],[],[],[],[]⟩ ⟨[(0,⟨[.tmp 4 tI,.row 1 Tl05Place],[5,6]++rG 8 35,[],[],[]⟩),(2,⟨[.tmp 6 tI,.row 1 Tl05Place],[],[],[],[]⟩),(4,⟨[.tmp 7 tI,.row 1 Tl05Place],rG 43 25,[],[],[]⟩)],[],[],[]⟩ N q11 Tryz.func133
def S_13(N:Nat):FnSpec:=⟨.pair TDesign tN,(.pair (.slice tI) .nil),[true],F_13 N,false⟩
theorem K_13:CB 141:=cb Tryz.func141
theorem Z_13(N:Nat):SN 141 (S_13 N):=snd ⟨[((133,[]),S_12 N)],[],[],[],[]⟩ ⟨[(0,⟨[.tmp 7 tI,.row 1 tI],[8]++rG 11 25,[],[],[]⟩)],[],[],[]⟩ N ((q8 (Z_12 N) K_12 q11)) Tryz.func141
def S_14(N:Nat):FnSpec:=⟨.pair tI tN,(.pair TWire .nil),[true,true,true,true],F_14 N,false⟩
theorem Z_14(N:Nat):SN 193 (S_14 N):=snd ⟨[],[],[],[],[]⟩ ⟨[],[],[],[]⟩ N q11 Tryz.func193
def S_15(N:Nat):FnSpec:=⟨.pair (.slice tI) .nil,(.pair (.slice tI) .nil),[true],F_15 N,false⟩
theorem K_15:CB 151:=cb Tryz.func151
theorem Z_15(N:Nat):SN 151 (S_15 N):=snd ⟨[],[],[],[],[]⟩ ⟨[],[],[],[]⟩ N q11 Tryz.func151
def S_16(N:Nat):VioSpec:=⟨Tl01Source,tN,(.pair TWire .nil),[true,true,true,true],fun v x=>F_16 N (v,x),true⟩
noncomputable def L_16(N:Nat):MarkL:=[]
theorem Z_16(N:Nat):VioOk Tryz.prog 154 (S_16 N):=sndV ⟨[((151,[]),S_15 N),((193,[]),S_14 N)],[],[],[],[(45,.vio (S_1 N))]⟩ (L_16 N) ⟨[(0,⟨[.tmp 6 tI,.var 0 [some (.slice (.int .u8)),some tI,some tI],.row 3 tI,.row 4 tI,.row 5 tI,.var 7 [none,none,none,none]],[7]++rG 15 32++[12],[],[],[(7,0,3),(7,1,4),(7,2,5)]⟩),(2,⟨[.tmp 8 tI,.var 0 [some (.slice (.int .u8)),some tI,some tI],.row 6 tI],rG 47 16,[],[],[]⟩)],[],[],[]⟩ N ((q8 (Z_15 N) K_15 (q8 (Z_14 N) (cb Tryz.func193) q11))) (q32) ((q23 (Z_1 N) K_1 q54)) Tryz.func154
def S_17(N:Nat):VioSpec:=⟨Tl01Source,(.pair tI (.pair .bool .nil)),(.pair TBlock .nil),[false,true,true,true,true],fun v x=>F_17 N (v,x),true⟩
theorem K_17:CB 106:=cb Tryz.func106
noncomputable def L_17(N:Nat):MarkL:=[]
theorem Z_17(N:Nat):VioOk Tryz.prog 106 (S_17 N):=sndV ⟨[((141,[]),S_13 N)],[1000017],[],[],[(152,.vio (S_9 N)),(153,.vio (S_11 N)),(154,.vio (S_16 N))]⟩ (L_17 N) ⟨[(0,⟨[.tmp 10 tI,.var 0 [some (.slice (.int .u8)),some tI,some tI],.drow 8 TWire],rG 17 17,[],[],[]⟩)],[],[],[]⟩ N ((q8 (Z_13 N) K_13 q11)) (q32) ((q23 (Z_9 N) (cb Tryz.func152) (q23 (Z_11 N) (cb Tryz.func153) (q23 (Z_16 N) (cb Tryz.func154) q54)))) Tryz.func106
def S_18(N:Nat):VioSpec:=⟨Tl01Source,.nil,(.pair TBlock .nil),[false,true,true,true,false],fun v x=>F_18 N (v,x),true⟩
noncomputable def L_18(N:Nat):MarkL:=[]
theorem Z_18(N:Nat):VioOk Tryz.prog 105 (S_18 N):=sndV ⟨[((151,[]),S_15 N)],[],[],[],[(45,.vio (S_1 N)),(106,.vio (S_17 N))]⟩ (L_18 N) ⟨[],[(5,[(12,none)])],[],[]⟩ N ((q8 (Z_15 N) K_15 q11)) (q32) ((q23 (Z_1 N) K_1 (q23 (Z_17 N) K_17 q54))) Tryz.func105
def S_19(N:Nat):VioSpec:=⟨Tl01Source,.nil,(.pair TBlock .nil),[],fun v x=>F_19 N (v,x),false⟩
noncomputable def L_19(N:Nat):MarkL:=[]
theorem Z_19(N:Nat):VioOk Tryz.prog 44 (S_19 N):=sndV ⟨[],[],[],[],[(45,.vio (S_1 N)),(105,.vio (S_18 N)),(106,.vio (S_17 N))]⟩ (L_19 N) ⟨[],[],[],[]⟩ N (q11) (q32) ((q23 (Z_1 N) K_1 (q23 (Z_18 N) (cb Tryz.func105) (q23 (Z_17 N) K_17 q54)))) Tryz.func44
def S_20(N:Nat):VioSpec:=⟨Tl01Source,(.pair TBlock .nil),tN,[],fun v x=>F_20 N (v,x),false⟩
noncomputable def L_20(N:Nat):MarkL:=[]
theorem Z_20(N:Nat):VioOk Tryz.prog 58 (S_20 N):=sndV ⟨[],[],[],[],[(45,.vio (S_1 N))]⟩ (L_20 N) ⟨[],[],[],[]⟩ N (q11) (q32) ((q23 (Z_1 N) K_1 q54)) Tryz.func58
def S_21(N:Nat):FnSpec:=⟨.pair (.slice (.int .u8)) .nil,(.pair TBlock tN),[false,false,false,false,false,false],F_21 N,false⟩
theorem KI_43:CB 43:=cb Tryz.func43
noncomputable def I_22:InF:=⟨43,Tryz.f43,⟨[(0,⟨[.tmp 4 tI,.var 2 [some (.slice (.int .u8)),some tI,some tI]],rG 8 25,[],[],[]⟩)],[],[],[]⟩,[],false⟩
noncomputable def L_21(N:Nat):MarkL:=[]
theorem Z_21(N:Nat):SN 119 (S_21 N):=sndX ⟨[],[],[I_22],[],[(44,.vio (S_19 N)),(58,.vio (S_20 N))]⟩ (L_21 N) ⟨[],[],[],[]⟩ N (q11) (q32) ((q23 (Z_19 N) (cb Tryz.func44) (q23 (Z_20 N) (cb Tryz.func58) q54))) Tryz.func119 (hi:=(q94 Tryz.func43 KI_43 q443))
def S_23(N:Nat):FnSpec:=⟨.pair .str .nil,(.pair .bool .nil),[false],F_23 N,false⟩
theorem K_23:CB 222:=cb Tryz.func222
theorem Z_23(N:Nat):SN 222 (S_23 N):=snd ⟨[],[],[],[],[]⟩ ⟨[(0,⟨[.tmp 3 tI],rG 4 38,[],[],[]⟩)],[],[],[]⟩ N q11 Tryz.func222
def S_24(N:Nat):FnSpec:=⟨.pair tI (.pair tI tN),(.pair .bool .nil),[false],F_24 N,false⟩
theorem K_24:CB 52:=cb Tryz.func52
theorem Z_24(N:Nat):SN 52 (S_24 N):=snd ⟨[],[],[],[],[]⟩ ⟨[],[],[],[]⟩ N q11 Tryz.func52
def S_25(N:Nat):FnSpec:=⟨.pair TCell .nil,(.pair tI (.pair .bool .nil)),[false,false],F_25 N,false⟩
theorem Z_25(N:Nat):SN 244 (S_25 N):=snd ⟨[((52,[]),S_24 N),((222,[]),S_23 N)],[],[],[],[]⟩ ⟨[(0,⟨[.tmp 5 tI,.tmp 6 tI],[7,8]++rG 18 67,[],[],[]⟩),(2,⟨[.tmp 8 tI],[],[],[],[]⟩)],[],[],[]⟩ N ((q8 (Z_24 N) K_24 (q8 (Z_23 N) K_23 q11))) Tryz.func244
def S_26(N:Nat):FnSpec:=⟨.pair (.slice tI) .nil,(.pair .bool .nil),[false],F_26 N,false⟩
theorem Z_26(N:Nat):SN 315 (S_26 N):=snd ⟨[((52,[]),S_24 N)],[],[],[],[]⟩ ⟨[(0,⟨[.tmp 3 tI],rG 4 28,[],[],[]⟩)],[],[],[]⟩ N ((q8 (Z_24 N) K_24 q11)) Tryz.func315
def S_27(N:Nat):FnSpec:=⟨.pair TTable .nil,(.pair .bool .nil),[false],F_27 N,false⟩
theorem Z_27(N:Nat):SN 296 (S_27 N):=snd ⟨[((52,[]),S_24 N),((315,[]),S_26 N)],[],[],[],[]⟩ ⟨[(0,⟨[.tmp 3 tI],rG 27 14,[],[],[]⟩)],[],[],[]⟩ N ((q8 (Z_24 N) K_24 (q8 (Z_26 N) (cb Tryz.func315) q11))) Tryz.func296
def S_28(N:Nat):FnSpec:=⟨.pair TTable .nil,(.pair TFraction tN),[false,false,false],F_28 N,false⟩
theorem Z_28(N:Nat):SN 278 (S_28 N):=snd ⟨[((296,[]),S_27 N)],[],[],[],[]⟩ ⟨[(0,⟨[.tmp 5 tI,.var 2 [some tI,some tI]],rG 19 25,[],[],[]⟩)],[],[],[]⟩ N ((q8 (Z_27 N) (cb Tryz.func296) q11)) Tryz.func278
def S_29(N:Nat):FnSpec:=⟨.pair (.slice TTable) (.pair .bool .nil),(.pair .bool .nil),[false],F_29 N,false⟩
theorem Z_29(N:Nat):SN 262 (S_29 N):=snd ⟨[((278,[]),S_28 N)],[],[],[],[]⟩ ⟨[(0,⟨[.tmp 5 tI],[6,7]++rG 11 22,[],[],[]⟩)],[],[],[]⟩ N ((q8 (Z_28 N) (cb Tryz.func278) q11)) Tryz.func262
def S_30(N:Nat):FnSpec:=⟨.pair TCell (.pair TArc .nil),(.pair .bool .nil),[false],F_30 N,false⟩
theorem Z_30(N:Nat):SN 245 (S_30 N):=snd ⟨[((52,[]),S_24 N),((262,[]),S_29 N)],[],[],[],[]⟩ ⟨[],[],[],[]⟩ N ((q8 (Z_24 N) K_24 (q8 (Z_29 N) (cb Tryz.func262) q11))) Tryz.func245
def S_31(N:Nat):FnSpec:=⟨.pair TCell .nil,(.pair (.slice tI) .nil),[true],F_31 N,false⟩
theorem Z_31(N:Nat):SN 246 (S_31 N):=snd ⟨[],[],[],[],[]⟩ ⟨[(0,⟨[.tmp 4 tI,.row 1 tI],rG 6 18,[],[],[]⟩)],[],[],[]⟩ N q11 Tryz.func246
def S_32(N:Nat):FnSpec:=⟨.pair TCell .nil,(.pair .bool .nil),[false],F_32 N,false⟩
theorem Z_32(N:Nat):SN 221 (S_32 N):=snd ⟨[((52,[]),S_24 N),((222,[]),S_23 N),((244,[]),S_25 N),((245,[]),S_30 N),((246,[]),S_31 N)],[],[],[],[]⟩ ⟨[(0,⟨[.tmp 5 tI],[6,7]++rG 41 52,[],[],[]⟩),(2,⟨[.tmp 7 tI],[],[],[],[]⟩),(5,⟨[.tmp 9 tI],rG 99 14,[],[],[]⟩)],[],[],[]⟩ N ((q8 (Z_24 N) K_24 (q8 (Z_23 N) K_23 (q8 (Z_25 N) (cb Tryz.func244) (q8 (Z_30 N) (cb Tryz.func245) (q8 (Z_31 N) (cb Tryz.func246) q11)))))) Tryz.func221
def S_33(N:Nat):FnSpec:=⟨.pair TLibrary .nil,(.pair .bool .nil),[false],F_33 N,false⟩
theorem Z_33(N:Nat):SN 187 (S_33 N):=snd ⟨[((221,[]),S_32 N)],[],[],[],[]⟩ ⟨[(0,⟨[.tmp 3 tI],rG 4 33,[],[],[]⟩),(2,⟨[.tmp 4 tI],[],[],[],[]⟩)],[],[],[]⟩ N ((q8 (Z_32 N) (cb Tryz.func221) q11)) Tryz.func187
def S_34(N:Nat):FnSpec:=⟨.pair TLibrary (.pair TDesign .nil),(.pair .bool .nil),[false],F_34 N,false⟩
theorem Z_34(N:Nat):SN 188 (S_34 N):=snd ⟨[((52,[]),S_24 N)],[],[],[],[]⟩ ⟨[(0,⟨[.tmp 6 tI],[7,8]++rG 13 50,[],[],[]⟩),(2,⟨[.tmp 8 tI],[],[],[],[]⟩),(4,⟨[.tmp 9 tI],rG 63 27,[],[],[]⟩)],[],[],[]⟩ N ((q8 (Z_24 N) K_24 q11)) Tryz.func188
def S_35(N:Nat):FnSpec:=⟨.pair (.slice .str) .nil,(.pair .bool .nil),[false],F_35 N,false⟩
theorem Z_35(N:Nat):SN 189 (S_35 N):=snd ⟨[((222,[]),S_23 N)],[],[],[],[]⟩ ⟨[(0,⟨[.tmp 3 tI],rG 4 27,[],[],[]⟩),(2,⟨[.tmp 4 tI],[],[],[],[]⟩)],[],[],[]⟩ N ((q8 (Z_23 N) K_23 q11)) Tryz.func189
def S_36(N:Nat):FnSpec:=⟨.pair TLibrary (.pair TDesign .nil),(.pair .bool .nil),[false],F_36 N,false⟩
theorem K_36:CB 139:=cb Tryz.func139
theorem Z_36(N:Nat):SN 139 (S_36 N):=snd ⟨[((187,[]),S_33 N),((188,[]),S_34 N),((189,[]),S_35 N)],[],[],[],[]⟩ ⟨[(0,⟨[.tmp 6 tI,.row 2 .str],rG 41 17,[],[],[]⟩),(2,⟨[.tmp 8 tI,.row 3 .str],rG 58 17,[],[],[]⟩),(4,⟨[.tmp 10 tI,.row 4 tI],[11]++rG 93 24,[],[],[]⟩),(6,⟨[.tmp 12 tI,.row 4 tI],rG 117 25,[],[],[]⟩),(8,⟨[.tmp 13 tI],rG 142 11,[],[],[]⟩)],[],[],[]⟩ N ((q8 (Z_33 N) (cb Tryz.func187) (q8 (Z_34 N) (cb Tryz.func188) (q8 (Z_35 N) (cb Tryz.func189) q11)))) Tryz.func139
def S_37(N:Nat):FnSpec:=⟨.pair TWire tN,(.pair .bool .nil),[false],F_37 N,false⟩
theorem Z_37(N:Nat):SN 140 (S_37 N):=snd ⟨[((52,[]),S_24 N)],[],[],[],[]⟩ ⟨[(0,⟨[.tmp 6 tI],rG 38 54,[],[],[]⟩),(2,⟨[.tmp 7 tI],rG 92 16,[],[],[]⟩)],[],[],[]⟩ N ((q8 (Z_24 N) K_24 q11)) Tryz.func140
def S_38(N:Nat):FnSpec:=⟨.pair TBlock .nil,(.pair .bool .nil),[false],F_38 N,false⟩
theorem K_38:CB 89:=cb Tryz.func89
theorem Z_38(N:Nat):SN 89 (S_38 N):=snd ⟨[((139,[]),S_36 N),((140,[]),S_37 N),((141,[]),S_13 N)],[],[],[],[]⟩ ⟨[(0,⟨[.tmp 3 tI],rG 20 19,[],[],[]⟩)],[],[],[]⟩ N ((q8 (Z_36 N) K_36 (q8 (Z_37 N) (cb Tryz.func140) (q8 (Z_13 N) K_13 q11)))) Tryz.func89
def S_39(N:Nat):FnSpec:=⟨.pair TDesign tN,tN,[false],F_39 N,false⟩
theorem Z_39(N:Nat):SN 161 (S_39 N):=snd ⟨[((133,[]),S_12 N)],[],[],[],[]⟩ ⟨[(0,⟨[.tmp 6 tI],rG 9 20,[],[],[]⟩)],[],[],[]⟩ N ((q8 (Z_12 N) K_12 q11)) Tryz.func161
def S_40(N:Nat):FnSpec:=⟨.pair TLibrary (.pair TDesign tN),(.pair Tl05Place (.pair .bool .nil)),[false,false,false,false,false],F_40 N,false⟩
theorem Z_40(N:Nat):SN 162 (S_40 N):=snd ⟨[((52,[]),S_24 N),((133,[]),S_12 N),((139,[]),S_36 N)],[],[],[],[]⟩ ⟨[],[],[],[]⟩ N ((q8 (Z_24 N) K_24 (q8 (Z_12 N) K_12 (q8 (Z_36 N) K_36 q11)))) Tryz.func162
def S_41(N:Nat):FnSpec:=⟨.pair TBlock tN,tN,[false],F_41 N,false⟩
theorem K_41:CB 116:=cb Tryz.func116
theorem Z_41(N:Nat):SN 116 (S_41 N):=snd ⟨[((161,[]),S_39 N),((162,[]),S_40 N)],[],[],[],[]⟩ ⟨[],[],[],[]⟩ N ((q8 (Z_39 N) (cb Tryz.func161) (q8 (Z_40 N) (cb Tryz.func162) q11))) Tryz.func116
def S_42(N:Nat):FnSpec:=⟨.pair TBlock tN,(.pair (.slice tI) .nil),[false],F_42 N,false⟩
theorem K_42:CB 117:=cb Tryz.func117
theorem Z_42(N:Nat):SN 117 (S_42 N):=snd ⟨[],[],[],[],[]⟩ ⟨[],[],[],[]⟩ N q11 Tryz.func117
def S_43(N:Nat):FnSpec:=⟨.pair TBlock .nil,(.pair (.slice tI) (.pair .bool .nil)),[true,false],F_43 N,false⟩
theorem Z_43(N:Nat):SN 160 (S_43 N):=snd ⟨[((116,[]),S_41 N),((117,[]),S_42 N)],[],[],[],[]⟩ ⟨[(0,⟨[.tmp 6 tI,.row 1 tI],rG 7 6++rG 19 47,[],[],[]⟩),(2,⟨[.tmp 8 tI,.tmp 7 .bool,.row 1 tI],[],[],[],[]⟩),(4,⟨[.tmp 10 tI,.tmp 12 tI],[],[],[],[]⟩)],[],[(2,tI)],[]⟩ N ((q8 (Z_41 N) K_41 (q8 (Z_42 N) K_42 q11))) Tryz.func160
def S_44(N:Nat):FnSpec:=⟨.pair TBlock .nil,(.pair .bool .nil),[false],F_44 N,false⟩
theorem Z_44(N:Nat):SN 115 (S_44 N):=snd ⟨[((89,[]),S_38 N),((160,[]),S_43 N)],[],[],[],[]⟩ ⟨[],[],[],[]⟩ N ((q8 (Z_38 N) K_38 (q8 (Z_43 N) (cb Tryz.func160) q11))) Tryz.func115
def S_45(N:Nat):FnSpec:=⟨.pair TBlock .nil,tN,[false],F_45 N,false⟩
theorem K_45:CB 50:=cb Tryz.func50
theorem Z_45(N:Nat):SN 50 (S_45 N):=snd ⟨[((89,[]),S_38 N),((115,[]),S_44 N)],[],[],[],[]⟩ ⟨[],[],[],[]⟩ N ((q8 (Z_38 N) K_38 (q8 (Z_44 N) (cb Tryz.func115) q11))) Tryz.func50
def S_46(N:Nat):FnSpec:=⟨.pair TBlock .nil,(.pair (.slice tI) .nil),[true],F_46 N,false⟩
theorem K_46:CB 51:=cb Tryz.func51
theorem Z_46(N:Nat):SN 51 (S_46 N):=snd ⟨[((116,[]),S_41 N)],[],[],[],[]⟩ ⟨[(0,⟨[.tmp 4 tI,.row 1 tI],rG 5 17,[],[],[]⟩)],[],[],[]⟩ N ((q8 (Z_41 N) K_41 q11)) Tryz.func51
def S_47(N:Nat):FnSpec:=⟨.pair TBlock .nil,(.pair (.slice tI) tN),[true,false],F_47 N,false⟩
theorem Z_47(N:Nat):SN 17 (S_47 N):=snd ⟨[((50,[]),S_45 N),((51,[]),S_46 N)],[],[],[],[]⟩ ⟨[],[],[(2,tI)],[]⟩ N ((q8 (Z_45 N) K_45 (q8 (Z_46 N) K_46 q11))) Tryz.func17
def S_48(N:Nat):FnSpec:=⟨.pair tI tN,tN,[false],F_48 N,false⟩
theorem K_48:CB 99:=cb Tryz.func99
theorem Z_48(N:Nat):SN 99 (S_48 N):=snd ⟨[],[],[],[],[]⟩ ⟨[(0,⟨[.tmp 0 tI,.tmp 1 tI],rG 5 8,[],[],[]⟩)],[],[],[]⟩ N q11 Tryz.func99
def S_49(N:Nat):FnSpec:=⟨.pair tI tN,(.pair TFraction (.pair .bool .nil)),[false,false,false],F_49 N,false⟩
theorem K_49:CB 94:=cb Tryz.func94
theorem Z_49(N:Nat):SN 94 (S_49 N):=snd ⟨[((99,[]),S_48 N)],[],[],[],[]⟩ ⟨[],[],[],[]⟩ N ((q8 (Z_48 N) K_48 q11)) Tryz.func94
def S_50(N:Nat):VioSpec:=⟨Tl01Source,(.pair TBlock .nil),(.pair (.slice TActivity) .nil),[],fun v x=>F_50 N (v,x),false⟩
noncomputable def L_50(N:Nat):MarkL:=[]
theorem Z_50(N:Nat):VioOk Tryz.prog 91 (S_50 N):=sndV ⟨[((17,[]),S_47 N),((94,[]),S_49 N)],[],[],[],[(45,.vio (S_1 N))]⟩ (L_50 N) ⟨[(0,⟨[.tmp 8 tI,.var 0 [some (.slice (.int .u8)),some tI,some tI],.row 3 TActivity],[9,10,11,12]++rG 18 33,[],[],[]⟩)],[(16,[(5,none)])],[],[]⟩ N ((q8 (Z_47 N) (cb Tryz.func17) (q8 (Z_49 N) K_49 q11))) (q32) ((q23 (Z_1 N) K_1 q54)) Tryz.func91
def S_51(N:Nat):FnSpec:=⟨.pair (.slice (.int .u8)) .nil,(.pair TBlock (.pair (.slice TActivity) tN)),[false,false,false,false,false,false,false],F_51 N,false⟩
noncomputable def I_52:InF:=⟨43,Tryz.f43,⟨[(0,⟨[.tmp 4 tI,.var 4 [none,some tI,some tI]],rG 8 25,[],[],[]⟩)],[],[],[]⟩,[],false⟩
noncomputable def L_51(N:Nat):MarkL:=[]
theorem Z_51(N:Nat):SN 100 (S_51 N):=sndX ⟨[((119,[]),S_21 N)],[],[I_52],[],[(91,.vio (S_50 N))]⟩ (L_51 N) ⟨[],[(3,[(15,none)])],[],[]⟩ N ((q8 (Z_21 N) (cb Tryz.func119) q11)) (q32) ((q23 (Z_50 N) (cb Tryz.func91) q54)) Tryz.func100 (hi:=(q94 Tryz.func43 KI_43 q443))
def S_53(N:Nat):FnSpec:=⟨.pair (.slice (.int .u8)) .nil,(.pair TBlock (.pair (.slice TActivity) tN)),[false,false,false,false,false,false,false],F_53 N,false⟩
theorem Z_53(N:Nat):SN 38 (S_53 N):=snd ⟨[((100,[]),S_51 N)],[],[],[],[]⟩ ⟨[],[],[],[]⟩ N ((q8 (Z_51 N) (cb Tryz.func100) q11)) Tryz.func38
def S_54(N:Nat):FnSpec:=⟨.pair tI (.pair tI tN),(.pair .bool .nil),[false],F_54 N,false⟩
theorem K_54:CB 112:=cb Tryz.func112
theorem Z_54(N:Nat):SN 112 (S_54 N):=snd ⟨[],[],[],[],[]⟩ ⟨[],[],[],[]⟩ N q11 Tryz.func112
def S_55(N:Nat):FnSpec:=⟨.pair .str .nil,(.pair .bool .nil),[false],F_55 N,false⟩
theorem K_55:CB 248:=cb Tryz.func248
theorem Z_55(N:Nat):SN 248 (S_55 N):=snd ⟨[((112,[]),S_54 N),((264,[]),q264 N),((265,[]),q137 N)],[],[],[],[]⟩ ⟨[],[],[],[]⟩ N ((q8 (Z_54 N) K_54 (q8 (q459 N) q456 (q8 (q273 N) q288 q11)))) Tryz.func248
def S_56(N:Nat):FnSpec:=⟨.pair (.slice TPin) .nil,tN,[false],F_56 N,false⟩
theorem K_56:CB 266:=cb Tryz.func266
theorem Z_56(N:Nat):SN 266 (S_56 N):=snd ⟨[],[],[],[],[]⟩ ⟨[],[],[],[]⟩ N q11 Tryz.func266
def S_57(N:Nat):FnSpec:=⟨.pair (.slice .str) (.pair .str .nil),tN,[false],F_57 N,false⟩
theorem Z_57(N:Nat):SN 272 (S_57 N):=snd ⟨[],[],[],[],[]⟩ ⟨[(0,⟨[.tmp 8 tI],[5]++rG 9 8++[18],[],[],[]⟩)],[],[],[]⟩ N q11 Tryz.func272
def S_58(N:Nat):FnSpec:=⟨.pair (.slice .str) (.pair .str .nil),(.pair .bool .nil),[false],F_58 N,false⟩
theorem Z_58(N:Nat):SN 252 (S_58 N):=snd ⟨[((272,[]),S_57 N)],[],[],[],[]⟩ ⟨[],[],[],[]⟩ N ((q8 (Z_57 N) (cb Tryz.func272) q11)) Tryz.func252
def S_59(N:Nat):FnSpec:=⟨.pair (.slice .str) .nil,(.pair .bool .nil),[false],F_59 N,false⟩
theorem K_59:CB 226:=cb Tryz.func226
theorem Z_59(N:Nat):SN 226 (S_59 N):=snd ⟨[((248,[]),S_55 N),((252,[]),S_58 N)],[],[],[],[]⟩ ⟨[(0,⟨[.tmp 7 tI],[3,4]++rG 8 15,[],[],[]⟩)],[],[],[]⟩ N ((q8 (Z_55 N) K_55 (q8 (Z_58 N) (cb Tryz.func252) q11))) Tryz.func226
def S_60(N:Nat):FnSpec:=⟨.pair (.slice TPin) .nil,(.pair .bool .nil),[false],F_60 N,false⟩
theorem Z_60(N:Nat):SN 249 (S_60 N):=snd ⟨[((112,[]),S_54 N),((226,[]),S_59 N),((266,[]),S_56 N)],[],[],[],[]⟩ ⟨[(0,⟨[.tmp 8 tI,.row 0 .str],[4,5]++rG 9 26++[44]++rG 35 9,[(3,.str),(3,.str)],[],[]⟩)],[],[],[]⟩ N ((q8 (Z_54 N) K_54 (q8 (Z_59 N) K_59 (q8 (Z_56 N) K_56 q11)))) Tryz.func249
def S_61(N:Nat):FnSpec:=⟨tN,(.pair .bool .nil),[false],F_61 N,false⟩
theorem Z_61(N:Nat):SN 288 (S_61 N):=snd ⟨[],[],[],[],[]⟩ ⟨[],[],[],[]⟩ N q11 Tryz.func288
def S_62(N:Nat):FnSpec:=⟨.pair (.slice tI) .nil,tN,[false],F_62 N,false⟩
theorem K_62:CB 109:=cb Tryz.func109
theorem Z_62(N:Nat):SN 109 (S_62 N):=snd ⟨[],[],[],[],[]⟩ ⟨[],[],[],[]⟩ N q11 Tryz.func109
def S_63(N:Nat):FnSpec:=⟨.pair tI (.pair (.ptr tI) (.pair (.ptr tI) .nil)),(.pair .bool .nil),[false],F_63 N,false⟩
theorem Z_63(N:Nat):SN 111 (S_63 N):=snd ⟨[((112,[]),S_54 N)],[],[],[],[]⟩ ⟨[],[],[],[]⟩ N ((q8 (Z_54 N) K_54 q11)) Tryz.func111
def S_64(N:Nat):FnSpec:=⟨.pair (.slice tI) (.pair (.clo 111 (.pair (.ptr tI) (.pair (.ptr tI) .nil))) .nil),tN,[false],F_64 N,false⟩
theorem Z_64(N:Nat):SN 159 (S_64 N):=snd ⟨[((111,[]),S_63 N)],[],[],[],[]⟩ ⟨[(0,⟨[.tmp 8 tI],[5]++rG 9 8++[18],[],[],[]⟩)],[],[],[]⟩ N ((q8 (Z_63 N) (cb Tryz.func111) q11)) Tryz.func159
def S_65(N:Nat):FnSpec:=⟨.pair (.slice tI) (.pair (.clo 111 (.pair (.ptr tI) (.pair (.ptr tI) .nil))) .nil),(.pair .bool .nil),[false],F_65 N,false⟩
theorem Z_65(N:Nat):SN 110 (S_65 N):=snd ⟨[((159,[111]),S_64 N)],[],[],[],[]⟩ ⟨[],[],[],[]⟩ N ((q8 (Z_64 N) (cb Tryz.func159) q11)) Tryz.func110
def S_66(N:Nat):FnSpec:=⟨.pair (.slice tI) (.pair tI tN),(.pair .bool .nil),[false],F_66 N,false⟩
theorem K_66:CB 48:=cb Tryz.func48
theorem Z_66(N:Nat):SN 48 (S_66 N):=snd ⟨[((110,[111]),S_65 N)],[],[],[],[]⟩ ⟨[],[(1,[(4,some tI),(5,some tI)])],[],[]⟩ N ((q8 (Z_65 N) (cb Tryz.func110) q11)) Tryz.func48
def S_67(N:Nat):FnSpec:=⟨.pair (.slice tI) .nil,(.pair .bool .nil),[false],F_67 N,false⟩
theorem Z_67(N:Nat):SN 328 (S_67 N):=snd ⟨[],[],[],[],[]⟩ ⟨[(0,⟨[.tmp 3 tI],rG 4 16,[],[],[]⟩)],[],[],[]⟩ N q11 Tryz.func328
def S_68(N:Nat):FnSpec:=⟨.pair (.slice tI) .nil,(.pair .bool .nil),[false],F_68 N,false⟩
theorem Z_68(N:Nat):SN 320 (S_68 N):=snd ⟨[((48,[]),S_66 N),((109,[]),S_62 N),((112,[]),S_54 N),((328,[]),S_67 N)],[],[],[],[]⟩ ⟨[],[],[],[]⟩ N ((q8 (Z_66 N) K_66 (q8 (Z_62 N) K_62 (q8 (Z_54 N) K_54 (q8 (Z_67 N) (cb Tryz.func328) q11))))) Tryz.func320
def S_69(N:Nat):FnSpec:=⟨.pair TTable .nil,(.pair .bool .nil),[false],F_69 N,false⟩
theorem Z_69(N:Nat):SN 304 (S_69 N):=snd ⟨[((48,[]),S_66 N),((320,[]),S_68 N)],[],[],[],[]⟩ ⟨[],[],[],[]⟩ N ((q8 (Z_66 N) K_66 (q8 (Z_68 N) (cb Tryz.func320) q11))) Tryz.func304
def S_70(N:Nat):FnSpec:=⟨.pair (.slice tI) .nil,tN,[false],F_70 N,false⟩
theorem Z_70(N:Nat):SN 305 (S_70 N):=snd ⟨[],[],[],[],[]⟩ ⟨[(0,⟨[.tmp 3 tI,.tmp 4 tI],rG 12 12,[],[],[]⟩)],[],[],[]⟩ N q11 Tryz.func305
def S_71(N:Nat):FnSpec:=⟨.pair TTable (.pair (.ptr .bool) .nil),(.pair .bool .nil),[false],F_71 N,false⟩
theorem Z_71(N:Nat):SN 303 (S_71 N):=snd ⟨[((304,[]),S_69 N),((305,[]),S_70 N)],[],[],[],[]⟩ ⟨[],[],[],[]⟩ N ((q8 (Z_69 N) (cb Tryz.func304) (q8 (Z_70 N) (cb Tryz.func305) q11))) Tryz.func303
def S_72(N:Nat):FnSpec:=⟨.pair (.slice TTable) (.pair (.clo 303 (.pair (.ptr .bool) .nil)) .nil),tN,[false],F_72 N,false⟩
theorem Z_72(N:Nat):SN 319 (S_72 N):=snd ⟨[((303,[]),S_71 N)],[],[],[],[]⟩ ⟨[(0,⟨[.tmp 8 tI],[5]++rG 9 8++[18],[],[],[]⟩)],[],[],[]⟩ N ((q8 (Z_71 N) (cb Tryz.func303) q11)) Tryz.func319
def S_73(N:Nat):FnSpec:=⟨.pair (.slice TTable) (.pair (.clo 303 (.pair (.ptr .bool) .nil)) .nil),(.pair .bool .nil),[false],F_73 N,false⟩
theorem Z_73(N:Nat):SN 302 (S_73 N):=snd ⟨[((319,[303]),S_72 N)],[],[],[],[]⟩ ⟨[],[],[],[]⟩ N ((q8 (Z_72 N) (cb Tryz.func319) q11)) Tryz.func302
def S_74(N:Nat):FnSpec:=⟨.pair (.slice TTable) (.pair .bool .nil),(.pair .bool .nil),[false],F_74 N,false⟩
theorem Z_74(N:Nat):SN 289 (S_74 N):=snd ⟨[((302,[303]),S_73 N)],[],[],[],[]⟩ ⟨[],[(1,[(3,some .bool)])],[],[]⟩ N ((q8 (Z_73 N) (cb Tryz.func302) q11)) Tryz.func289
def S_75(N:Nat):FnSpec:=⟨.pair TPin .nil,(.pair .bool .nil),[false],F_75 N,false⟩
theorem Z_75(N:Nat):SN 307 (S_75 N):=snd ⟨[],[],[],[],[]⟩ ⟨[],[],[],[]⟩ N q11 Tryz.func307
def S_76(N:Nat):FnSpec:=⟨.pair (.slice TPin) (.pair (.clo 307 .nil) .nil),tN,[false],F_76 N,false⟩
theorem Z_76(N:Nat):SN 306 (S_76 N):=snd ⟨[((307,[]),S_75 N)],[],[],[],[]⟩ ⟨[(0,⟨[.tmp 8 tI],[5]++rG 9 8++[18],[],[],[]⟩)],[],[],[]⟩ N ((q8 (Z_75 N) (cb Tryz.func307) q11)) Tryz.func306
def S_77(N:Nat):FnSpec:=⟨.pair TCell .nil,tN,[false],F_77 N,false⟩
theorem Z_77(N:Nat):SN 290 (S_77 N):=snd ⟨[((306,[307]),S_76 N)],[],[],[],[]⟩ ⟨[],[],[],[]⟩ N ((q8 (Z_76 N) (cb Tryz.func306) q11)) Tryz.func290
def S_78(N:Nat):FnSpec:=⟨.pair TCell .nil,tN,[false],F_78 N,false⟩
theorem K_78:CB 270:=cb Tryz.func270
theorem Z_78(N:Nat):SN 270 (S_78 N):=snd ⟨[((266,[]),S_56 N)],[],[],[],[]⟩ ⟨[],[],[],[]⟩ N ((q8 (Z_56 N) K_56 q11)) Tryz.func270
def S_79(N:Nat):FnSpec:=⟨.pair TCell tN,(.pair .bool .nil),[false],F_79 N,false⟩
theorem Z_79(N:Nat):SN 291 (S_79 N):=snd ⟨[((112,[]),S_54 N),((270,[]),S_78 N)],[],[],[],[]⟩ ⟨[],[],[],[]⟩ N ((q8 (Z_54 N) K_54 (q8 (Z_78 N) K_78 q11))) Tryz.func291
def S_80(N:Nat):FnSpec:=⟨.pair TCell (.pair TArc .nil),(.pair .bool .nil),[false],F_80 N,false⟩
theorem Z_80(N:Nat):SN 267 (S_80 N):=snd ⟨[((112,[]),S_54 N),((270,[]),S_78 N),((288,[]),S_61 N),((289,[]),S_74 N),((290,[]),S_77 N),((291,[]),S_79 N)],[],[],[],[]⟩ ⟨[],[],[],[]⟩ N ((q8 (Z_54 N) K_54 (q8 (Z_78 N) K_78 (q8 (Z_61 N) (cb Tryz.func288) (q8 (Z_74 N) (cb Tryz.func289) (q8 (Z_77 N) (cb Tryz.func290) (q8 (Z_79 N) (cb Tryz.func291) q11))))))) Tryz.func267
def S_81(N:Nat):FnSpec:=⟨.pair TArc (.pair (.ptr TArc) .nil),(.pair .bool .nil),[false],F_81 N,false⟩
theorem Z_81(N:Nat):SN 269 (S_81 N):=snd ⟨[],[],[],[],[]⟩ ⟨[],[],[],[]⟩ N q11 Tryz.func269
def S_82(N:Nat):FnSpec:=⟨.pair (.slice TArc) (.pair (.clo 269 (.pair (.ptr TArc) .nil)) .nil),tN,[false],F_82 N,false⟩
theorem Z_82(N:Nat):SN 292 (S_82 N):=snd ⟨[((269,[]),S_81 N)],[],[],[],[]⟩ ⟨[(0,⟨[.tmp 8 tI],[5]++rG 9 8++[18],[],[],[]⟩)],[],[],[]⟩ N ((q8 (Z_81 N) (cb Tryz.func269) q11)) Tryz.func292
def S_83(N:Nat):FnSpec:=⟨.pair (.slice TArc) (.pair (.clo 269 (.pair (.ptr TArc) .nil)) .nil),(.pair .bool .nil),[false],F_83 N,false⟩
theorem Z_83(N:Nat):SN 268 (S_83 N):=snd ⟨[((292,[269]),S_82 N)],[],[],[],[]⟩ ⟨[],[],[],[]⟩ N ((q8 (Z_82 N) (cb Tryz.func292) q11)) Tryz.func268
def S_84(N:Nat):FnSpec:=⟨.pair TCell .nil,(.pair .bool .nil),[false],F_84 N,false⟩
theorem Z_84(N:Nat):SN 250 (S_84 N):=snd ⟨[((267,[]),S_80 N),((268,[269]),S_83 N)],[],[],[],[]⟩ ⟨[(0,⟨[.tmp 8 tI],[3,4]++rG 9 17,[],[],[]⟩)],[(4,[(4,some TArc)])],[],[]⟩ N ((q8 (Z_80 N) (cb Tryz.func267) (q8 (Z_83 N) (cb Tryz.func268) q11))) Tryz.func250
def S_85(N:Nat):FnSpec:=⟨.pair TArc (.pair (.ptr tI) .nil),(.pair .bool .nil),[false],F_85 N,false⟩
theorem Z_85(N:Nat):SN 293 (S_85 N):=snd ⟨[],[],[],[],[]⟩ ⟨[],[],[],[]⟩ N q11 Tryz.func293
def S_86(N:Nat):FnSpec:=⟨.pair (.slice TArc) (.pair (.clo 293 (.pair (.ptr tI) .nil)) .nil),tN,[false],F_86 N,false⟩
theorem Z_86(N:Nat):SN 292 (S_86 N):=snd ⟨[((293,[]),S_85 N)],[],[],[],[]⟩ ⟨[(0,⟨[.tmp 8 tI],[5]++rG 9 8++[18],[],[],[]⟩)],[],[],[]⟩ N ((q8 (Z_85 N) (cb Tryz.func293) q11)) Tryz.func292
def S_87(N:Nat):FnSpec:=⟨.pair (.slice TArc) (.pair (.clo 293 (.pair (.ptr tI) .nil)) .nil),(.pair .bool .nil),[false],F_87 N,false⟩
theorem Z_87(N:Nat):SN 268 (S_87 N):=snd ⟨[((292,[293]),S_86 N)],[],[],[],[]⟩ ⟨[],[],[],[]⟩ N ((q8 (Z_86 N) (cb Tryz.func292) q11)) Tryz.func268
def S_88(N:Nat):FnSpec:=⟨.pair TCell tN,(.pair .bool .nil),[false],F_88 N,false⟩
theorem Z_88(N:Nat):SN 271 (S_88 N):=snd ⟨[((268,[293]),S_87 N)],[],[],[],[]⟩ ⟨[],[(1,[(3,some tI)])],[],[]⟩ N ((q8 (Z_87 N) (cb Tryz.func268) q11)) Tryz.func271
def S_89(N:Nat):FnSpec:=⟨.pair TCell .nil,(.pair .bool .nil),[false],F_89 N,false⟩
theorem Z_89(N:Nat):SN 251 (S_89 N):=snd ⟨[((48,[]),S_66 N),((270,[]),S_78 N),((271,[]),S_88 N)],[],[],[],[]⟩ ⟨[(0,⟨[.tmp 3 tI,.tmp 9 tI],[5]++rG 10 8,[],[],[]⟩)],[],[],[]⟩ N ((q8 (Z_66 N) K_66 (q8 (Z_78 N) K_78 (q8 (Z_88 N) (cb Tryz.func271) q11)))) Tryz.func251
def S_90(N:Nat):FnSpec:=⟨.pair TCell .nil,(.pair .bool .nil),[false],F_90 N,false⟩
theorem Z_90(N:Nat):SN 225 (S_90 N):=snd ⟨[((112,[]),S_54 N),((248,[]),S_55 N),((249,[]),S_60 N),((250,[]),S_84 N),((251,[]),S_89 N)],[],[],[],[]⟩ ⟨[],[],[],[]⟩ N ((q8 (Z_54 N) K_54 (q8 (Z_55 N) K_55 (q8 (Z_60 N) (cb Tryz.func249) (q8 (Z_84 N) (cb Tryz.func250) (q8 (Z_89 N) (cb Tryz.func251) q11)))))) Tryz.func225
def S_91(N:Nat):FnSpec:=⟨.pair TLibrary .nil,(.pair .bool .nil),[false],F_91 N,false⟩
theorem Z_91(N:Nat):SN 194 (S_91 N):=snd ⟨[((225,[]),S_90 N),((226,[]),S_59 N)],[],[],[],[]⟩ ⟨[(0,⟨[.tmp 9 tI,.row 1 .str],[5]++rG 10 12,[(3,.str)],[],[]⟩)],[],[],[]⟩ N ((q8 (Z_90 N) (cb Tryz.func225) (q8 (Z_59 N) K_59 q11))) Tryz.func194
def S_92(N:Nat):FnSpec:=⟨.pair TDesign .nil,(.pair .bool .nil),[false],F_92 N,false⟩
theorem Z_92(N:Nat):SN 195 (S_92 N):=snd ⟨[((226,[]),S_59 N)],[],[],[],[]⟩ ⟨[(0,⟨[.tmp 12 tI,.row 1 .str],[6]++rG 13 9,[(3,.str)],[],[]⟩),(2,⟨[.tmp 25 tI,.row 2 .str],[8]++rG 26 9,[(4,.str)],[],[]⟩)],[],[],[]⟩ N ((q8 (Z_59 N) K_59 q11)) Tryz.func195
def S_93(N:Nat):FnSpec:=⟨.pair (.slice TCell) .nil,tN,[false],F_93 N,false⟩
theorem Z_93(N:Nat):SN 227 (S_93 N):=snd ⟨[],[],[],[],[]⟩ ⟨[],[],[],[]⟩ N q11 Tryz.func227
def S_94(N:Nat):FnSpec:=⟨.pair (.slice .str) .nil,tN,[false],F_94 N,false⟩
theorem Z_94(N:Nat):SN 229 (S_94 N):=snd ⟨[],[],[],[],[]⟩ ⟨[],[],[],[]⟩ N q11 Tryz.func229
def S_95(N:Nat):FnSpec:=⟨.pair TDesign tN,(.pair .bool .nil),[false],F_95 N,false⟩
theorem K_95:CB 197:=cb Tryz.func197
theorem Z_95(N:Nat):SN 197 (S_95 N):=snd ⟨[((112,[]),S_54 N),((229,[]),S_94 N)],[],[],[],[]⟩ ⟨[],[],[],[]⟩ N ((q8 (Z_54 N) K_54 (q8 (Z_94 N) (cb Tryz.func229) q11))) Tryz.func197
def S_96(N:Nat):FnSpec:=⟨.pair tI (.pair (.ptr TDesign) .nil),(.pair .bool .nil),[false],F_96 N,false⟩
theorem Z_96(N:Nat):SN 228 (S_96 N):=snd ⟨[((197,[]),S_95 N)],[],[],[],[]⟩ ⟨[],[],[],[]⟩ N ((q8 (Z_95 N) K_95 q11)) Tryz.func228
def S_97(N:Nat):FnSpec:=⟨.pair (.slice tI) (.pair (.clo 228 (.pair (.ptr TDesign) .nil)) .nil),tN,[false],F_97 N,false⟩
theorem Z_97(N:Nat):SN 159 (S_97 N):=snd ⟨[((228,[]),S_96 N)],[],[],[],[]⟩ ⟨[(0,⟨[.tmp 8 tI],[5]++rG 9 8++[18],[],[],[]⟩)],[],[],[]⟩ N ((q8 (Z_96 N) (cb Tryz.func228) q11)) Tryz.func159
def S_98(N:Nat):FnSpec:=⟨.pair (.slice tI) (.pair (.clo 228 (.pair (.ptr TDesign) .nil)) .nil),(.pair .bool .nil),[false],F_98 N,false⟩
theorem Z_98(N:Nat):SN 110 (S_98 N):=snd ⟨[((159,[228]),S_97 N)],[],[],[],[]⟩ ⟨[],[],[],[]⟩ N ((q8 (Z_97 N) (cb Tryz.func159) q11)) Tryz.func110
def S_99(N:Nat):FnSpec:=⟨.pair TDesign (.pair TLibrary (.pair TInstance .nil)),(.pair .bool .nil),[false],F_99 N,false⟩
theorem Z_99(N:Nat):SN 196 (S_99 N):=snd ⟨[((110,[228]),S_98 N),((112,[]),S_54 N),((227,[]),S_93 N)],[],[],[],[]⟩ ⟨[],[(1,[(3,some TDesign)])],[],[]⟩ N ((q8 (Z_98 N) (cb Tryz.func110) (q8 (Z_54 N) K_54 (q8 (Z_93 N) (cb Tryz.func227) q11)))) Tryz.func196
def S_100(N:Nat):FnSpec:=⟨tN,(.pair .bool .nil),[false],F_100 N,false⟩
theorem Z_100(N:Nat):SN 199 (S_100 N):=snd ⟨[],[],[],[],[]⟩ ⟨[],[],[],[]⟩ N q11 Tryz.func199
def S_101(N:Nat):FnSpec:=⟨.pair (.slice tI) (.pair (.clo 199 .nil) .nil),tN,[false],F_101 N,false⟩
theorem Z_101(N:Nat):SN 230 (S_101 N):=snd ⟨[((199,[]),S_100 N)],[],[],[],[]⟩ ⟨[(0,⟨[.tmp 8 tI],[5]++rG 9 8++[18],[],[],[]⟩)],[],[],[]⟩ N ((q8 (Z_100 N) (cb Tryz.func199) q11)) Tryz.func230
def S_102(N:Nat):FnSpec:=⟨.pair (.slice tI) (.pair (.clo 199 .nil) .nil),(.pair .bool .nil),[false],F_102 N,false⟩
theorem Z_102(N:Nat):SN 198 (S_102 N):=snd ⟨[((230,[199]),S_101 N)],[],[],[],[]⟩ ⟨[],[],[],[]⟩ N ((q8 (Z_101 N) (cb Tryz.func230) q11)) Tryz.func198
def S_103(N:Nat):FnSpec:=⟨.pair TLibrary (.pair TDesign .nil),(.pair .bool .nil),[false],F_103 N,false⟩
theorem Z_103(N:Nat):SN 155 (S_103 N):=snd ⟨[((194,[]),S_91 N),((195,[]),S_92 N),((196,[]),S_99 N),((197,[]),S_95 N),((198,[199]),S_102 N)],[],[],[],[]⟩ ⟨[(0,⟨[.tmp 25 tI,.row 2 tI],[7]++rG 26 22,[],[],[]⟩),(2,⟨[.tmp 51 tI,.row 2 tI],[9]++rG 52 29,[],[],[]⟩)],[],[],[]⟩ N ((q8 (Z_91 N) (cb Tryz.func194) (q8 (Z_92 N) (cb Tryz.func195) (q8 (Z_99 N) (cb Tryz.func196) (q8 (Z_95 N) K_95 (q8 (Z_102 N) (cb Tryz.func198) q11)))))) Tryz.func155
def S_104(N:Nat):FnSpec:=⟨.pair TDesign .nil,(.pair (.slice Tl05Place) .nil),[true],F_104 N,false⟩
theorem Z_104(N:Nat):SN 156 (S_104 N):=snd ⟨[],[],[],[],[]⟩ ⟨[(0,⟨[.tmp 13 tI,.row 1 Tl05Place],[4,5,6,7]++rG 14 27,[(3,Tl05Place)],[],[]⟩),(2,⟨[.tmp 21 tI,.row 1 Tl05Place],[],[],[],[]⟩),(4,⟨[.tmp 44 tI,.row 1 Tl05Place],[8,9]++rG 45 15,[],[],[]⟩)],[],[],[]⟩ N q11 Tryz.func156
def S_105(N:Nat):FnSpec:=⟨.pair TWire .nil,(.pair .bool .nil),[false],F_105 N,false⟩
theorem Z_105(N:Nat):SN 200 (S_105 N):=snd ⟨[((112,[]),S_54 N)],[],[],[],[]⟩ ⟨[(0,⟨[.tmp 8 tI],[3,4]++rG 9 29,[],[],[]⟩)],[],[],[]⟩ N ((q8 (Z_54 N) K_54 q11)) Tryz.func200
def S_106(N:Nat):FnSpec:=⟨.pair TWire tN,(.pair .bool .nil),[false],F_106 N,false⟩
theorem Z_106(N:Nat):SN 157 (S_106 N):=snd ⟨[((48,[]),S_66 N),((109,[]),S_62 N),((112,[]),S_54 N),((200,[]),S_105 N)],[],[],[],[]⟩ ⟨[],[],[],[]⟩ N ((q8 (Z_66 N) K_66 (q8 (Z_62 N) K_62 (q8 (Z_54 N) K_54 (q8 (Z_105 N) (cb Tryz.func200) q11))))) Tryz.func157
def S_107(N:Nat):FnSpec:=⟨.pair TBlock .nil,(.pair .bool .nil),[false],F_107 N,false⟩
theorem Z_107(N:Nat):SN 107 (S_107 N):=snd ⟨[((155,[]),S_103 N),((156,[]),S_104 N),((157,[]),S_106 N)],[],[],[],[]⟩ ⟨[(0,⟨[.tmp 32 tI,.row 1 tI],[5]++rG 33 14,[],[],[]⟩),(2,⟨[.tmp 50 tI],[6,7]++rG 51 12,[],[],[]⟩)],[],[],[]⟩ N ((q8 (Z_103 N) (cb Tryz.func155) (q8 (Z_104 N) (cb Tryz.func156) (q8 (Z_106 N) (cb Tryz.func157) q11)))) Tryz.func107
def S_108(N:Nat):FnSpec:=⟨.pair TBlock tN,(.pair TCell .nil),[false,false,false,false,false,false,false],F_108 N,false⟩
theorem K_108:CB 114:=cb Tryz.func114
theorem Z_108(N:Nat):SN 114 (S_108 N):=snd ⟨[],[],[],[],[]⟩ ⟨[],[],[],[]⟩ N q11 Tryz.func114
def S_109(N:Nat):FnSpec:=⟨.pair (.ptr Tlogic) tN,(.pair (.slice tI) .nil),[false],F_109 N,false⟩
theorem K_109:CB 113:=cb Tryz.func113
theorem Z_109(N:Nat):SN 113 (S_109 N):=snd ⟨[],[],[],[],[]⟩ ⟨[],[],[],[]⟩ N q11 Tryz.func113
def S_110(N:Nat):FnSpec:=⟨.pair TBlock .nil,(.pair (.ptr Tlogic) (.pair .bool .nil)),[false,false],F_110 N,false⟩
theorem KI_110:CB 110:=cb Tryz.func110
noncomputable def I_111:InF:=⟨110,Tryz.f110,⟨[],[],[],[]⟩,[],false⟩
theorem KI_113:CB 113:=cb Tryz.func113
noncomputable def I_112:InF:=⟨113,Tryz.f113,⟨[],[],[],[]⟩,[],false⟩
theorem KI_158:CB 158:=cb Tryz.func158
noncomputable def I_113:InF:=⟨158,Tryz.f158,⟨[],[],[],[]⟩,[],false⟩
theorem KI_159:CB 159:=cb Tryz.func159
noncomputable def I_114:InF:=⟨159,Tryz.f159,⟨[(0,⟨[.tmp 8 tI],[5]++rG 9 8++[18],[],[],[]⟩)],[],[],[]⟩,[],false⟩
theorem Z_110(N:Nat):SN 108 (S_110 N):=snd ⟨[((109,[]),S_62 N),((114,[]),S_108 N)],[],[I_111,I_112,I_113,I_114],[],[]⟩ ⟨[(0,⟨[.tmp 24 tI,.row 1 tI],[5]++rG 25 9,[],[],[]⟩),(2,⟨[.tmp 38 tI,.row 1 tI],[6,7]++rG 39 24,[],[],[]⟩),(4,⟨[.var 2 [some (.slice TCell),some (.slice TInstance),some (.slice .str),some (.slice TPort),some (.slice TWire),none,none],.row 3 .bool,.row 5 tI],[10,11]++rG 70 68,[],[(2,6,tI)],[]⟩),(6,⟨[.tmp 91 tI,.var 2 [some (.slice TCell),some (.slice TInstance),some (.slice .str),some (.slice TPort),some (.slice TWire),none,none],.row 3 .bool,.row 5 tI],[73,84],[],[],[]⟩)],[],[],[]⟩ N ((q8 (Z_62 N) K_62 (q8 (Z_108 N) K_108 q11))) Tryz.func108 (hi:=(q94 Tryz.func110 KI_110 (q94 Tryz.func113 KI_113 (q94 Tryz.func158 KI_158 (q94 Tryz.func159 KI_159 q443)))))
def S_115(N:Nat):FnSpec:=⟨.pair TBlock (.pair (.slice tI) .nil),(.pair (.ptr Tlogic) tN),[false,false],F_115 N,false⟩
theorem K_115:CB 46:=cb Tryz.func46
theorem Z_115(N:Nat):SN 46 (S_115 N):=snd ⟨[((48,[]),S_66 N),((107,[]),S_107 N),((108,[]),S_110 N),((109,[]),S_62 N)],[],[],[],[]⟩ ⟨[],[],[],[]⟩ N ((q8 (Z_66 N) K_66 (q8 (Z_107 N) (cb Tryz.func107) (q8 (Z_110 N) (cb Tryz.func108) (q8 (Z_62 N) K_62 q11))))) Tryz.func46
def S_116(N:Nat):FnSpec:=⟨.pair (.ptr Tlogic) .nil,(.pair (.slice tI) .nil),[true],F_116 N,false⟩
theorem K_116:CB 47:=cb Tryz.func47
theorem Z_116(N:Nat):SN 47 (S_116 N):=snd ⟨[],[],[],[],[]⟩ ⟨[(0,⟨[.tmp 11 tI,.row 0 tI],[4,5]++rG 12 11,[(3,tI)],[],[]⟩)],[],[],[]⟩ N q11 Tryz.func47
def S_117(N:Nat):FnSpec:=⟨.pair tI tN,tN,[false],F_117 N,false⟩
theorem K_117:CB 126:=cb Tryz.func126
theorem Z_117(N:Nat):SN 126 (S_117 N):=snd ⟨[],[],[],[],[]⟩ ⟨[(0,⟨[.tmp 0 tI,.tmp 1 tI],rG 5 6,[],[],[]⟩)],[],[],[]⟩ N q11 Tryz.func126
def S_118(N:Nat):FnSpec:=⟨.pair TFraction .nil,(.pair .bool .nil),[false],F_118 N,false⟩
theorem Z_118(N:Nat):SN 176 (S_118 N):=snd ⟨[((112,[]),S_54 N),((126,[]),S_117 N)],[],[],[],[]⟩ ⟨[],[],[],[]⟩ N ((q8 (Z_54 N) K_54 (q8 (Z_117 N) K_117 q11))) Tryz.func176
def S_119(N:Nat):FnSpec:=⟨.pair TActivity .nil,(.pair .bool .nil),[false],F_119 N,false⟩
theorem Z_119(N:Nat):SN 175 (S_119 N):=snd ⟨[((112,[]),S_54 N),((176,[]),S_118 N)],[],[],[],[]⟩ ⟨[],[],[],[]⟩ N ((q8 (Z_54 N) K_54 (q8 (Z_118 N) (cb Tryz.func176) q11))) Tryz.func175
def S_120(N:Nat):FnSpec:=⟨.pair (.slice TActivity) (.pair (.clo 175 .nil) .nil),tN,[false],F_120 N,false⟩
theorem Z_120(N:Nat):SN 206 (S_120 N):=snd ⟨[((175,[]),S_119 N)],[],[],[],[]⟩ ⟨[(0,⟨[.tmp 8 tI],[5]++rG 9 8++[18],[],[],[]⟩)],[],[],[]⟩ N ((q8 (Z_119 N) (cb Tryz.func175) q11)) Tryz.func206
def S_121(N:Nat):FnSpec:=⟨.pair (.slice TActivity) (.pair (.clo 175 .nil) .nil),(.pair .bool .nil),[false],F_121 N,false⟩
theorem Z_121(N:Nat):SN 174 (S_121 N):=snd ⟨[((206,[175]),S_120 N)],[],[],[],[]⟩ ⟨[],[],[],[]⟩ N ((q8 (Z_120 N) (cb Tryz.func206) q11)) Tryz.func174
def S_122(N:Nat):FnSpec:=⟨.pair (.ptr Tlogic) (.pair (.slice TActivity) .nil),(.pair .bool .nil),[false],F_122 N,false⟩
theorem Z_122(N:Nat):SN 125 (S_122 N):=snd ⟨[((47,[]),S_116 N),((174,[175]),S_121 N)],[],[],[],[]⟩ ⟨[],[],[],[]⟩ N ((q8 (Z_116 N) K_116 (q8 (Z_121 N) (cb Tryz.func174) q11))) Tryz.func125
def S_123(N:Nat):FnSpec:=⟨.pair TBlock (.pair (.slice TActivity) (.pair (.slice tI) .nil)),(.pair (.ptr Tchances) tN),[false,false],F_123 N,false⟩
theorem K_123:CB 68:=cb Tryz.func68
theorem Z_123(N:Nat):SN 68 (S_123 N):=snd ⟨[((46,[]),S_115 N),((47,[]),S_116 N),((125,[]),S_122 N)],[],[],[],[]⟩ ⟨[(1,⟨[.tmp 35 tI,.map 1 TActivity],[11,12]++rG 36 14,[],[],[]⟩)],[],[],[]⟩ N ((q8 (Z_115 N) K_115 (q8 (Z_116 N) K_116 (q8 (Z_122 N) (cb Tryz.func125) q11)))) Tryz.func68
def S_124(N:Nat):FnSpec:=⟨.pair (.ptr Tlogic) .nil,(.pair (.slice (.slice tI)) .nil),[true],F_124 N,false⟩
theorem K_124:CB 55:=cb Tryz.func55
noncomputable def L_124(N:Nat):MarkL:=[]
theorem Z_124(N:Nat):SN 55 (S_124 N):=sndX ⟨[((113,[]),S_109 N)],[35],[],[],[(60,.io q134),(61,.row q102)]⟩ (L_124 N) ⟨[(0,⟨[.tmp 20 tI,.row 0 (.slice tI)],[5]++rG 21 16++[59,6,8]++rG 37 22,[],[],[]⟩),(2,⟨[.tmp 41 tI,.row 1 tI],[],[(6,tI)],[],[]⟩)],[],[],[]⟩ N ((q8 (Z_109 N) K_109 q11)) (q32) ((q23 (q279) q277 (q23 (q205) q206 q54))) Tryz.func55
def S_125(N:Nat):FnSpec:=⟨.pair (.ptr Tlogic) (.pair (.map tI) .nil),(.pair (.slice tI) .nil),[true],F_125 N,false⟩
theorem Z_125(N:Nat):SN 49 (S_125 N):=snd ⟨[((113,[]),S_109 N),((114,[]),S_108 N)],[],[],[],[]⟩ ⟨[(0,⟨[.tmp 22 tI,.row 0 tI],[7]++rG 23 17++[77,8,9,10]++rG 40 37,[],[],[]⟩),(2,⟨[.tmp 8 tI,.tmp 44 tI],[],[],[],[]⟩)],[],[],[]⟩ N ((q8 (Z_109 N) K_109 (q8 (Z_108 N) K_108 q11))) Tryz.func49
end Go.Proofs.YtgldiandbkfmkaaGreatDoor
