/- The functions' contracts. Printed by my dec.py. No condition of its own. -/
import Derived.Test.YtaljimgiglekhaaGreatDoorPgL
import Derived.Test.YtaljimgiglekhaaGreatDoorPvF1
import Derived.Test.YtaljimgiglekhaaGreatDoorProg
import Derived.Test.YtaljimgiglekhaaGreatDoorPgG
namespace Go.Proofs.YtaljimgiglekhaaGreatDoor
abbrev tI:Ty:=.int .i64
abbrev tN:Ty:=.pair tI .nil
abbrev rG:=List.range'
open Go.RowKit
set_option maxRecDepth 100000
set_option linter.unusedVariables false
abbrev CB(f:FuncId):Prop:=q16 Tryz.prog f
theorem cb{f : FuncId}{fn : Func}(h : Tryz.prog.funcs[f]? = some fn)(h1 : fn.body.isNone = false := by kernel_rfl)(h2 : (fn.name == "runtime.NumGoroutine") = false := by kernel_rfl) : CB f := ⟨_, h, h1, h2⟩
abbrev SN(f:FuncId)(S:FnSpec):Prop:=Sound Tryz.prog PRE f S
theorem snd(C:Ctx)(H:Hints)(N:Nat){f:FuncId}{fn:Func}{S:FnSpec}(hc:∀ p∈C.fns,Sound Tryz.prog PRE p.1.1 p.2/\q16 Tryz.prog p.1.1)(hf:Tryz.prog.funcs[f]?=some fn)(hm:Tryz.prog.follows .mixedOrders=true:=by kernel_rfl)(hp:q74 S.ps=true:=by kernel_rfl)
 (h:∀ x,pevFn Tryz.prog C N H S fn x=S.fn x:=by intro x; kernel_rfl) (hi:∀ x∈C.inl,Tryz.prog.funcs[x.fid]?=some x.fn/\q16 Tryz.prog x.fid:=by intro x hx; cases hx) (ht:∀ w,PRE w->TabsAt C.tabs w:=by exact fun w _=>q205 w) (hio:∀ p∈C.io,HookOk Tryz.prog p.1 p.2/\q16 Tryz.prog p.1:=by intro p hp; cases hp):SN f S:=
 q506 (C:=C) (H:=H) (N:=N) (q301 q300 hm hc hi ht hio) hf hp (fun x r k=>(h x).trans k)
theorem sndX(C:Ctx)(L:MarkL)(H:Hints)(N:Nat){f:FuncId}{fn:Func}{S:FnSpec}(hc:∀ p∈C.fns,Sound Tryz.prog PRE p.1.1 p.2/\q16 Tryz.prog p.1.1)(hL:∀ p∈L,MarkOk Tryz.prog p.1 p.2/\q16 Tryz.prog p.1)(hio:∀ p∈C.io,HookOk Tryz.prog p.1 p.2/\q16 Tryz.prog p.1)(hf:Tryz.prog.funcs[f]?=some fn)(hm:Tryz.prog.follows .mixedOrders=true:=by kernel_rfl)(hp:q74 S.ps=true:=by kernel_rfl)
 (h:∀ x,pevFnX Tryz.prog C L N H S fn x=S.fn x:=by intro x; kernel_rfl) (hi:∀ x∈C.inl,Tryz.prog.funcs[x.fid]?=some x.fn/\q16 Tryz.prog x.fid:=by intro x hx; cases hx) (ht:∀ w,PRE w->TabsAt C.tabs w:=by exact fun w _=>q205 w):SN f S:=
 q425 (C:=C) (H:=H) (N:=N) (L:=L) (q301 q300 hm hc hi ht hio) hL hf hp (fun x r k=>(h x).trans k)
theorem sndV(C:Ctx)(L:MarkL)(H:Hints)(N:Nat){f:FuncId}{fn:Func}{S:VioSpec}(hc:∀ p∈C.fns,Sound Tryz.prog PRE p.1.1 p.2/\q16 Tryz.prog p.1.1)(hL:∀ p∈L,MarkOk Tryz.prog p.1 p.2/\q16 Tryz.prog p.1)(hio:∀ p∈C.io,HookOk Tryz.prog p.1 p.2/\q16 Tryz.prog p.1)(hf:Tryz.prog.funcs[f]?=some fn)(hm:Tryz.prog.follows .mixedOrders=true:=by kernel_rfl)
 (h:∀ v x,pevFnV Tryz.prog C L N H S fn v x=S.fn v x:=by intro v x; kernel_rfl) (hi:∀ x∈C.inl,Tryz.prog.funcs[x.fid]?=some x.fn/\q16 Tryz.prog x.fid:=by intro x hx; cases hx) (ht:∀ w,PRE w->TabsAt C.tabs w:=by exact fun w _=>q205 w) (hT:∀ w,PRE w:=by exact fun _=>trivial):VioOk Tryz.prog f S:=
 q587 (C:=C) (H:=H) (N:=N) (L:=L) (q301 q300 hm hc hi ht hio) hT hL hf (fun v x r k=>(h v x).trans k)
def S_0(N:Nat):FnSpec:=⟨.pair (.slice (.int .u8)) .nil,(.pair .bool .nil),[false],F_0 N,false⟩
theorem K_0:CB 5:=cb Tryz.func5
theorem Z_0(N:Nat):SN 5 (S_0 N):=snd ⟨[],[],[],[],[]⟩ ⟨[],[],[],[]⟩ N q11 Tryz.func5
def S_1(N:Nat):VioSpec:=⟨Tl01Source,tN,tN,[],fun v x=>F_1 N (v,x),false⟩
theorem K_1:CB 38:=cb Tryz.func38
noncomputable def L_1(N:Nat):MarkL:=[]
theorem Z_1(N:Nat):VioOk Tryz.prog 38 (S_1 N):=sndV ⟨[],[],[],[],[]⟩ (L_1 N) ⟨[],[],[],[]⟩ N (q11) (q50) (q85) Tryz.func38
def S_2(N:Nat):FnSpec:=⟨.pair TCell tN,tN,[false],F_2 N,false⟩
theorem Z_2(N:Nat):SN 142 (S_2 N):=snd ⟨[],[],[],[],[]⟩ ⟨[(0,⟨[.tmp 8 tI,.tmp 5 .bool,.tmp 6 .bool],rG 12 43,[],[],[]⟩)],[],[],[]⟩ N q11 Tryz.func142
def S_3(N:Nat):VioSpec:=⟨Tl01Source,tN,(.pair (.slice tI) .nil),[],fun v x=>F_3 N (v,x),false⟩
noncomputable def L_3(N:Nat):MarkL:=[]
theorem Z_3(N:Nat):VioOk Tryz.prog 173 (S_3 N):=sndV ⟨[],[],[],[],[(38,.vio (S_1 N))]⟩ (L_3 N) ⟨[(0,⟨[.tmp 6 tI,.tmp 7 tI,.var 0 [some (.slice (.int .u8)),some tI,some tI],.row 2 tI],[8]++rG 15 14,[],[],[]⟩)],[],[],[]⟩ N (q11) (q50) ((q35 (Z_1 N) K_1 q85)) Tryz.func173
def S_4(N:Nat):VioSpec:=⟨Tl01Source,tN,(.pair TTable .nil),[],fun v x=>F_4 N (v,x),false⟩
noncomputable def L_4(N:Nat):MarkL:=[]
theorem Z_4(N:Nat):VioOk Tryz.prog 165 (S_4 N):=sndV ⟨[],[],[],[],[(38,.vio (S_1 N)),(173,.vio (S_3 N))]⟩ (L_4 N) ⟨[(0,⟨[.tmp 9 tI,.var 0 [some (.slice (.int .u8)),some tI,some tI],.row 3 tI],[10,15]++rG 18 44,[],[],[]⟩)],[],[],[]⟩ N (q11) (q50) ((q35 (Z_1 N) K_1 (q35 (Z_3 N) (cb Tryz.func173) q85))) Tryz.func165
def S_5(N:Nat):VioSpec:=⟨Tl01Source,tN,(.pair (.slice TTable) .nil),[],fun v x=>F_5 N (v,x),false⟩
noncomputable def L_5(N:Nat):MarkL:=[]
theorem Z_5(N:Nat):VioOk Tryz.prog 156 (S_5 N):=sndV ⟨[],[],[],[],[(165,.vio (S_4 N))]⟩ (L_5 N) ⟨[],[],[],[]⟩ N (q11) (q50) ((q35 (Z_4 N) (cb Tryz.func165) q85)) Tryz.func156
def S_6(N:Nat):VioSpec:=⟨Tl01Source,(.pair tI (.pair tI (.pair tI tN))),(.pair TArc .nil),[],fun v x=>F_6 N (v,x),false⟩
theorem K_6:CB 143:=cb Tryz.func143
noncomputable def L_6(N:Nat):MarkL:=[]
theorem Z_6(N:Nat):VioOk Tryz.prog 143 (S_6 N):=sndV ⟨[],[],[],[],[(38,.vio (S_1 N)),(156,.vio (S_5 N))]⟩ (L_6 N) ⟨[],[],[],[]⟩ N (q11) (q50) ((q35 (Z_1 N) K_1 (q35 (Z_5 N) (cb Tryz.func156) q85))) Tryz.func143
def S_7(N:Nat):VioSpec:=⟨Tl01Source,(.pair .str (.pair (.slice tI) .nil)),(.pair TCell .nil),[],fun v x=>F_7 N (v,x),false⟩
noncomputable def L_7(N:Nat):MarkL:=[]
theorem Z_7(N:Nat):VioOk Tryz.prog 126 (S_7 N):=sndV ⟨[((142,[]),S_2 N)],[],[],[],[(38,.vio (S_1 N)),(143,.vio (S_6 N))]⟩ (L_7 N) ⟨[(0,⟨[.tmp 10 tI,.var 0 [some (.slice (.int .u8)),some tI,some tI],.row 5 TPin],rG 23 19,[],[],[]⟩),(2,⟨[.tmp 13 tI,.var 0 [some (.slice (.int .u8)),some tI,some tI],.row 7 TArc],[14]++rG 49 19,[],[],[]⟩)],[],[],[]⟩ N ((q8 (Z_2 N) (cb Tryz.func142) q11)) (q50) ((q35 (Z_1 N) K_1 (q35 (Z_6 N) K_6 q85))) Tryz.func126
def S_8(N:Nat):VioSpec:=⟨Tl01Source,(.pair .str (.pair tI tN)),(.pair TCell .nil),[],fun v x=>F_8 N (v,x),false⟩
noncomputable def L_8(N:Nat):MarkL:=[]
theorem Z_8(N:Nat):VioOk Tryz.prog 127 (S_8 N):=sndV ⟨[],[],[],[],[(38,.vio (S_1 N)),(143,.vio (S_6 N))]⟩ (L_8 N) ⟨[],[],[],[]⟩ N (q11) (q50) ((q35 (Z_1 N) K_1 (q35 (Z_6 N) K_6 q85))) Tryz.func127
def S_9(N:Nat):VioSpec:=⟨Tl01Source,.nil,(.pair TLibrary .nil),[],fun v x=>F_9 N (v,x),false⟩
noncomputable def L_9(N:Nat):MarkL:=[]
theorem Z_9(N:Nat):VioOk Tryz.prog 94 (S_9 N):=sndV ⟨[],[14,17,20,23,26],[],[],[(126,.vio (S_7 N)),(127,.vio (S_8 N))]⟩ (L_9 N) ⟨[],[],[],[]⟩ N (q11) (q50) ((q35 (Z_7 N) (cb Tryz.func126) (q35 (Z_8 N) (cb Tryz.func127) q85))) Tryz.func94
def S_10(N M:Nat):FnSpec:=⟨tN,(.pair .str .nil),[false],F_10 N M,false⟩
noncomputable def C_10(N M:Nat):Ctx:=⟨[((128,[]),S_10 N M)],[],[],[],[]⟩
theorem K_10:CB 128:=cb Tryz.func128
theorem Z_10(N:Nat):∀ M,SN 128 (S_10 N M)
 | 0=>fun w args x r ok _ _ _ h=>nomatch (show none=some r from h)
 | M+1=>snd (C_10 N M) ⟨[],[],[],[]⟩ N (q8 (Z_10 N M) K_10 q11) Tryz.func128
def S_11(N:Nat):VioSpec:=⟨Tl01Source,(.pair tI (.pair .bool .nil)),(.pair TDesign .nil),[true,true,true],fun v x=>F_11 N (v,x),true⟩
noncomputable def L_11(N:Nat):MarkL:=[]
theorem Z_11(N:Nat):VioOk Tryz.prog 95 (S_11 N):=sndV ⟨[((128,[]),S_10 N N)],[1000026],[],[],[(38,.vio (S_1 N))]⟩ (L_11 N) ⟨[(0,⟨[.tmp 11 tI,.var 0 [some (.slice (.int .u8)),some tI,some tI],.drow 7 TInstance,.row 8 .str],[12,13,14,15,26,30]++rG 36 70,[],[],[]⟩),(2,⟨[.tmp 14 tI,.var 0 [some (.slice (.int .u8)),some tI,some tI],.var 10 [some .str,some tI,none],.row 11 tI],[],[],[(10,2,tI),(10,2,tI),(10,2,tI),(10,2,tI),(10,2,tI),(10,2,tI)],[(10,2,11)]⟩),(4,⟨[.tmp 16 tI,.var 0 [some (.slice (.int .u8)),some tI,some tI],.drow 7 TInstance],rG 106 17++[129,130]++rG 132 14++rG 123 6++[131],[],[],[]⟩)],[],[],[]⟩ N ((q8 (Z_10 N N) K_10 q11)) (q50) ((q35 (Z_1 N) K_1 q85)) Tryz.func95
def S_12(N:Nat):FnSpec:=⟨.pair TDesign .nil,(.pair (.slice Tl05Place) .nil),[true],F_12 N,false⟩
theorem K_12:CB 100:=cb Tryz.func100
theorem Z_12(N:Nat):SN 100 (S_12 N):=snd ⟨[],[],[],[],[]⟩ ⟨[(0,⟨[.tmp 4 tI,.row 1 Tl05Place],[5,6]++rG 8 35,[],[],[]⟩),(2,⟨[.tmp 6 tI,.row 1 Tl05Place],[],[],[],[]⟩),(4,⟨[.tmp 7 tI,.row 1 Tl05Place],rG 43 25,[],[],[]⟩)],[],[],[]⟩ N q11 Tryz.func100
def S_13(N:Nat):FnSpec:=⟨.pair TDesign tN,(.pair (.slice tI) .nil),[true],F_13 N,false⟩
theorem K_13:CB 66:=cb Tryz.func66
theorem Z_13(N:Nat):SN 66 (S_13 N):=snd ⟨[((100,[]),S_12 N)],[],[],[],[]⟩ ⟨[(0,⟨[.tmp 7 tI,.row 1 tI],[8]++rG 11 25,[],[],[]⟩)],[],[],[]⟩ N ((q8 (Z_12 N) K_12 q11)) Tryz.func66
def S_14(N:Nat):FnSpec:=⟨.pair tI tN,(.pair TWire .nil),[true,true,true,true],F_14 N,false⟩
theorem Z_14(N:Nat):SN 129 (S_14 N):=snd ⟨[],[],[],[],[]⟩ ⟨[],[],[],[]⟩ N q11 Tryz.func129
def S_15(N:Nat):FnSpec:=⟨.pair (.slice tI) .nil,(.pair (.slice tI) .nil),[true],F_15 N,false⟩
theorem K_15:CB 93:=cb Tryz.func93
theorem Z_15(N:Nat):SN 93 (S_15 N):=snd ⟨[],[],[],[],[]⟩ ⟨[],[],[],[]⟩ N q11 Tryz.func93
def S_16(N:Nat):VioSpec:=⟨Tl01Source,tN,(.pair TWire .nil),[true,true,true,true],fun v x=>F_16 N (v,x),true⟩
noncomputable def L_16(N:Nat):MarkL:=[]
theorem Z_16(N:Nat):VioOk Tryz.prog 96 (S_16 N):=sndV ⟨[((93,[]),S_15 N),((129,[]),S_14 N)],[],[],[],[(38,.vio (S_1 N))]⟩ (L_16 N) ⟨[(0,⟨[.tmp 6 tI,.var 0 [some (.slice (.int .u8)),some tI,some tI],.row 3 tI,.row 4 tI,.row 5 tI,.var 7 [none,none,none,none]],[7]++rG 15 32++[12],[],[],[(7,0,3),(7,1,4),(7,2,5)]⟩),(2,⟨[.tmp 8 tI,.var 0 [some (.slice (.int .u8)),some tI,some tI],.row 6 tI],rG 47 16,[],[],[]⟩)],[],[],[]⟩ N ((q8 (Z_15 N) K_15 (q8 (Z_14 N) (cb Tryz.func129) q11))) (q50) ((q35 (Z_1 N) K_1 q85)) Tryz.func96
def S_17(N:Nat):VioSpec:=⟨Tl01Source,(.pair tI (.pair .bool .nil)),(.pair TBlock .nil),[false,true,true,true,true],fun v x=>F_17 N (v,x),true⟩
theorem K_17:CB 63:=cb Tryz.func63
noncomputable def L_17(N:Nat):MarkL:=[]
theorem Z_17(N:Nat):VioOk Tryz.prog 63 (S_17 N):=sndV ⟨[((66,[]),S_13 N)],[1000017],[],[],[(94,.vio (S_9 N)),(95,.vio (S_11 N)),(96,.vio (S_16 N))]⟩ (L_17 N) ⟨[(0,⟨[.tmp 10 tI,.var 0 [some (.slice (.int .u8)),some tI,some tI],.drow 8 TWire],rG 17 17,[],[],[]⟩)],[],[],[]⟩ N ((q8 (Z_13 N) K_13 q11)) (q50) ((q35 (Z_9 N) (cb Tryz.func94) (q35 (Z_11 N) (cb Tryz.func95) (q35 (Z_16 N) (cb Tryz.func96) q85)))) Tryz.func63
def S_18(N:Nat):VioSpec:=⟨Tl01Source,.nil,(.pair TBlock .nil),[false,true,true,true,false],fun v x=>F_18 N (v,x),true⟩
noncomputable def L_18(N:Nat):MarkL:=[]
theorem Z_18(N:Nat):VioOk Tryz.prog 62 (S_18 N):=sndV ⟨[((93,[]),S_15 N)],[],[],[],[(38,.vio (S_1 N)),(63,.vio (S_17 N))]⟩ (L_18 N) ⟨[],[(5,[(12,none)])],[],[]⟩ N ((q8 (Z_15 N) K_15 q11)) (q50) ((q35 (Z_1 N) K_1 (q35 (Z_17 N) K_17 q85))) Tryz.func62
def S_19(N:Nat):VioSpec:=⟨Tl01Source,.nil,(.pair TBlock .nil),[],fun v x=>F_19 N (v,x),false⟩
noncomputable def L_19(N:Nat):MarkL:=[]
theorem Z_19(N:Nat):VioOk Tryz.prog 35 (S_19 N):=sndV ⟨[],[],[],[],[(38,.vio (S_1 N)),(62,.vio (S_18 N)),(63,.vio (S_17 N))]⟩ (L_19 N) ⟨[],[],[],[]⟩ N (q11) (q50) ((q35 (Z_1 N) K_1 (q35 (Z_18 N) (cb Tryz.func62) (q35 (Z_17 N) K_17 q85)))) Tryz.func35
def S_20(N:Nat):FnSpec:=⟨.pair .str .nil,(.pair .bool .nil),[false],F_20 N,false⟩
theorem K_20:CB 103:=cb Tryz.func103
theorem Z_20(N:Nat):SN 103 (S_20 N):=snd ⟨[],[],[],[],[]⟩ ⟨[(0,⟨[.tmp 3 tI],rG 4 38,[],[],[]⟩)],[],[],[]⟩ N q11 Tryz.func103
def S_21(N:Nat):FnSpec:=⟨.pair tI (.pair tI tN),(.pair .bool .nil),[false],F_21 N,false⟩
theorem K_21:CB 74:=cb Tryz.func74
theorem Z_21(N:Nat):SN 74 (S_21 N):=snd ⟨[],[],[],[],[]⟩ ⟨[],[],[],[]⟩ N q11 Tryz.func74
def S_22(N:Nat):FnSpec:=⟨.pair TCell .nil,(.pair tI (.pair .bool .nil)),[false,false],F_22 N,false⟩
theorem Z_22(N:Nat):SN 144 (S_22 N):=snd ⟨[((74,[]),S_21 N),((103,[]),S_20 N)],[],[],[],[]⟩ ⟨[(0,⟨[.tmp 5 tI,.tmp 6 tI],[7,8]++rG 18 67,[],[],[]⟩),(2,⟨[.tmp 8 tI],[],[],[],[]⟩)],[],[],[]⟩ N ((q8 (Z_21 N) K_21 (q8 (Z_20 N) K_20 q11))) Tryz.func144
def S_23(N:Nat):FnSpec:=⟨.pair (.slice tI) .nil,(.pair .bool .nil),[false],F_23 N,false⟩
theorem Z_23(N:Nat):SN 177 (S_23 N):=snd ⟨[((74,[]),S_21 N)],[],[],[],[]⟩ ⟨[(0,⟨[.tmp 3 tI],rG 4 28,[],[],[]⟩)],[],[],[]⟩ N ((q8 (Z_21 N) K_21 q11)) Tryz.func177
def S_24(N:Nat):FnSpec:=⟨.pair TTable .nil,(.pair .bool .nil),[false],F_24 N,false⟩
theorem Z_24(N:Nat):SN 174 (S_24 N):=snd ⟨[((74,[]),S_21 N),((177,[]),S_23 N)],[],[],[],[]⟩ ⟨[(0,⟨[.tmp 3 tI],rG 27 14,[],[],[]⟩)],[],[],[]⟩ N ((q8 (Z_21 N) K_21 (q8 (Z_23 N) (cb Tryz.func177) q11))) Tryz.func174
def S_25(N:Nat):FnSpec:=⟨.pair TTable .nil,(.pair TSpan tN),[false,false,false],F_25 N,false⟩
theorem Z_25(N:Nat):SN 166 (S_25 N):=snd ⟨[((174,[]),S_24 N)],[],[],[],[]⟩ ⟨[(0,⟨[.tmp 5 tI,.var 2 [some tI,some tI]],rG 19 25,[],[],[]⟩)],[],[],[]⟩ N ((q8 (Z_24 N) (cb Tryz.func174) q11)) Tryz.func166
def S_26(N:Nat):FnSpec:=⟨.pair (.slice TTable) (.pair .bool .nil),(.pair .bool .nil),[false],F_26 N,false⟩
theorem Z_26(N:Nat):SN 157 (S_26 N):=snd ⟨[((166,[]),S_25 N)],[],[],[],[]⟩ ⟨[(0,⟨[.tmp 5 tI],[6,7]++rG 11 22,[],[],[]⟩)],[],[],[]⟩ N ((q8 (Z_25 N) (cb Tryz.func166) q11)) Tryz.func157
def S_27(N:Nat):FnSpec:=⟨.pair TCell (.pair TArc .nil),(.pair .bool .nil),[false],F_27 N,false⟩
theorem Z_27(N:Nat):SN 145 (S_27 N):=snd ⟨[((74,[]),S_21 N),((157,[]),S_26 N)],[],[],[],[]⟩ ⟨[],[],[],[]⟩ N ((q8 (Z_21 N) K_21 (q8 (Z_26 N) (cb Tryz.func157) q11))) Tryz.func145
def S_28(N:Nat):FnSpec:=⟨.pair TCell .nil,(.pair (.slice tI) .nil),[true],F_28 N,false⟩
theorem Z_28(N:Nat):SN 146 (S_28 N):=snd ⟨[],[],[],[],[]⟩ ⟨[(0,⟨[.tmp 4 tI,.row 1 tI],rG 6 18,[],[],[]⟩)],[],[],[]⟩ N q11 Tryz.func146
def S_29(N:Nat):FnSpec:=⟨.pair TCell .nil,(.pair .bool .nil),[false],F_29 N,false⟩
theorem Z_29(N:Nat):SN 130 (S_29 N):=snd ⟨[((74,[]),S_21 N),((103,[]),S_20 N),((144,[]),S_22 N),((145,[]),S_27 N),((146,[]),S_28 N)],[],[],[],[]⟩ ⟨[(0,⟨[.tmp 5 tI],[6,7]++rG 41 52,[],[],[]⟩),(2,⟨[.tmp 7 tI],[],[],[],[]⟩),(5,⟨[.tmp 9 tI],rG 99 14,[],[],[]⟩)],[],[],[]⟩ N ((q8 (Z_21 N) K_21 (q8 (Z_20 N) K_20 (q8 (Z_22 N) (cb Tryz.func144) (q8 (Z_27 N) (cb Tryz.func145) (q8 (Z_28 N) (cb Tryz.func146) q11)))))) Tryz.func130
def S_30(N:Nat):FnSpec:=⟨.pair TLibrary .nil,(.pair .bool .nil),[false],F_30 N,false⟩
theorem Z_30(N:Nat):SN 97 (S_30 N):=snd ⟨[((130,[]),S_29 N)],[],[],[],[]⟩ ⟨[(0,⟨[.tmp 3 tI],rG 4 33,[],[],[]⟩),(2,⟨[.tmp 4 tI],[],[],[],[]⟩)],[],[],[]⟩ N ((q8 (Z_29 N) (cb Tryz.func130) q11)) Tryz.func97
def S_31(N:Nat):FnSpec:=⟨.pair TLibrary (.pair TDesign .nil),(.pair .bool .nil),[false],F_31 N,false⟩
theorem Z_31(N:Nat):SN 98 (S_31 N):=snd ⟨[((74,[]),S_21 N)],[],[],[],[]⟩ ⟨[(0,⟨[.tmp 6 tI],[7,8]++rG 13 50,[],[],[]⟩),(2,⟨[.tmp 8 tI],[],[],[],[]⟩),(4,⟨[.tmp 9 tI],rG 63 27,[],[],[]⟩)],[],[],[]⟩ N ((q8 (Z_21 N) K_21 q11)) Tryz.func98
def S_32(N:Nat):FnSpec:=⟨.pair (.slice .str) .nil,(.pair .bool .nil),[false],F_32 N,false⟩
theorem Z_32(N:Nat):SN 99 (S_32 N):=snd ⟨[((103,[]),S_20 N)],[],[],[],[]⟩ ⟨[(0,⟨[.tmp 3 tI],rG 4 27,[],[],[]⟩),(2,⟨[.tmp 4 tI],[],[],[],[]⟩)],[],[],[]⟩ N ((q8 (Z_20 N) K_20 q11)) Tryz.func99
def S_33(N:Nat):FnSpec:=⟨.pair TLibrary (.pair TDesign .nil),(.pair .bool .nil),[false],F_33 N,false⟩
theorem K_33:CB 64:=cb Tryz.func64
theorem Z_33(N:Nat):SN 64 (S_33 N):=snd ⟨[((97,[]),S_30 N),((98,[]),S_31 N),((99,[]),S_32 N)],[],[],[],[]⟩ ⟨[(0,⟨[.tmp 6 tI,.row 2 .str],rG 41 17,[],[],[]⟩),(2,⟨[.tmp 8 tI,.row 3 .str],rG 58 17,[],[],[]⟩),(4,⟨[.tmp 10 tI,.row 4 tI],[11]++rG 93 24,[],[],[]⟩),(6,⟨[.tmp 12 tI,.row 4 tI],rG 117 25,[],[],[]⟩),(8,⟨[.tmp 13 tI],rG 142 11,[],[],[]⟩)],[],[],[]⟩ N ((q8 (Z_30 N) (cb Tryz.func97) (q8 (Z_31 N) (cb Tryz.func98) (q8 (Z_32 N) (cb Tryz.func99) q11)))) Tryz.func64
def S_34(N:Nat):FnSpec:=⟨.pair TWire tN,(.pair .bool .nil),[false],F_34 N,false⟩
theorem Z_34(N:Nat):SN 65 (S_34 N):=snd ⟨[((74,[]),S_21 N)],[],[],[],[]⟩ ⟨[(0,⟨[.tmp 6 tI],rG 38 54,[],[],[]⟩),(2,⟨[.tmp 7 tI],rG 92 16,[],[],[]⟩)],[],[],[]⟩ N ((q8 (Z_21 N) K_21 q11)) Tryz.func65
def S_35(N:Nat):FnSpec:=⟨.pair TBlock .nil,(.pair .bool .nil),[false],F_35 N,false⟩
theorem K_35:CB 36:=cb Tryz.func36
theorem Z_35(N:Nat):SN 36 (S_35 N):=snd ⟨[((64,[]),S_33 N),((65,[]),S_34 N),((66,[]),S_13 N)],[],[],[],[]⟩ ⟨[(0,⟨[.tmp 3 tI],rG 20 19,[],[],[]⟩)],[],[],[]⟩ N ((q8 (Z_33 N) K_33 (q8 (Z_34 N) (cb Tryz.func65) (q8 (Z_13 N) K_13 q11)))) Tryz.func36
def S_36(N:Nat):FnSpec:=⟨.pair TBlock .nil,tN,[false],F_36 N,false⟩
theorem Z_36(N:Nat):SN 67 (S_36 N):=snd ⟨[((100,[]),S_12 N)],[],[],[],[]⟩ ⟨[],[],[],[]⟩ N ((q8 (Z_12 N) K_12 q11)) Tryz.func67
def S_37(N:Nat):FnSpec:=⟨.pair TLibrary (.pair TDesign tN),(.pair Tl05Place (.pair .bool .nil)),[false,false,false,false,false],F_37 N,false⟩
theorem Z_37(N:Nat):SN 68 (S_37 N):=snd ⟨[((64,[]),S_33 N),((74,[]),S_21 N),((100,[]),S_12 N)],[],[],[],[]⟩ ⟨[],[],[],[]⟩ N ((q8 (Z_33 N) K_33 (q8 (Z_21 N) K_21 (q8 (Z_12 N) K_12 q11)))) Tryz.func68
def S_38(N:Nat):FnSpec:=⟨.pair TBlock tN,(.pair TCell .nil),[false,false,false,false,false,false,false],F_38 N,false⟩
theorem Z_38(N:Nat):SN 70 (S_38 N):=snd ⟨[],[],[],[],[]⟩ ⟨[],[],[],[]⟩ N q11 Tryz.func70
def S_39(N:Nat):FnSpec:=⟨.pair TCell tN,(.pair .bool .nil),[false],F_39 N,false⟩
theorem Z_39(N:Nat):SN 69 (S_39 N):=snd ⟨[],[],[],[],[]⟩ ⟨[(0,⟨[.tmp 5 tI],rG 6 24,[],[],[]⟩)],[],[],[]⟩ N q11 Tryz.func69
def S_40(N:Nat):FnSpec:=⟨.pair TBlock .nil,(.pair (.slice tI) .nil),[true],F_40 N,false⟩
theorem K_40:CB 37:=cb Tryz.func37
theorem Z_40(N:Nat):SN 37 (S_40 N):=snd ⟨[((67,[]),S_36 N),((68,[]),S_37 N),((69,[]),S_39 N),((70,[]),S_38 N)],[],[],[],[]⟩ ⟨[(0,⟨[.tmp 4 tI,.row 1 tI],rG 5 45,[],[],[]⟩)],[],[],[]⟩ N ((q8 (Z_36 N) (cb Tryz.func67) (q8 (Z_37 N) (cb Tryz.func68) (q8 (Z_39 N) (cb Tryz.func69) (q8 (Z_38 N) (cb Tryz.func70) q11))))) Tryz.func37
def S_41(N:Nat):FnSpec:=⟨.pair (.slice tI) tN,tN,[false],F_41 N,false⟩
theorem K_41:CB 101:=cb Tryz.func101
theorem Z_41(N:Nat):SN 101 (S_41 N):=snd ⟨[],[],[],[],[]⟩ ⟨[(0,⟨[.tmp 5 tI],rG 6 12,[],[],[]⟩)],[],[],[]⟩ N q11 Tryz.func101
def S_42(N:Nat):FnSpec:=⟨tN,(.pair .bool .nil),[false],F_42 N,false⟩
theorem K_42:CB 102:=cb Tryz.func102
theorem Z_42(N:Nat):SN 102 (S_42 N):=snd ⟨[],[],[],[],[]⟩ ⟨[],[],[],[]⟩ N q11 Tryz.func102
def S_43(N:Nat):FnSpec:=⟨tN,(.pair .bool .nil),[false],F_43 N,false⟩
theorem K_43:CB 48:=cb Tryz.func48
theorem Z_43(N:Nat):SN 48 (S_43 N):=snd ⟨[((74,[]),S_21 N)],[],[],[],[]⟩ ⟨[],[],[],[]⟩ N ((q8 (Z_21 N) K_21 q11)) Tryz.func48
def S_44(N:Nat):FnSpec:=⟨.pair TBlock (.pair TWaiver .nil),(.pair .bool .nil),[false],F_44 N,false⟩
theorem Z_44(N:Nat):SN 71 (S_44 N):=snd ⟨[((37,[]),S_40 N),((48,[]),S_43 N),((74,[]),S_21 N),((101,[]),S_41 N),((102,[]),S_42 N),((103,[]),S_20 N)],[],[],[],[]⟩ ⟨[],[],[],[]⟩ N ((q8 (Z_40 N) K_40 (q8 (Z_43 N) K_43 (q8 (Z_21 N) K_21 (q8 (Z_41 N) K_41 (q8 (Z_42 N) K_42 (q8 (Z_20 N) K_20 q11))))))) Tryz.func71
def S_45(N:Nat):FnSpec:=⟨.pair TBlock (.pair (.slice TWaiver) .nil),(.pair .bool .nil),[false],F_45 N,false⟩
theorem K_45:CB 39:=cb Tryz.func39
theorem Z_45(N:Nat):SN 39 (S_45 N):=snd ⟨[((71,[]),S_44 N)],[],[],[],[]⟩ ⟨[(0,⟨[.tmp 5 tI],rG 6 28,[],[],[]⟩),(2,⟨[.tmp 6 tI],[],[],[],[]⟩)],[],[],[]⟩ N ((q8 (Z_44 N) (cb Tryz.func71) q11)) Tryz.func39
def S_46(N:Nat):FnSpec:=⟨.pair (.slice (.int .u8)) .nil,(.pair TBlock (.pair (.slice TViolation) (.pair (.slice TWaiver) tN))),[false,false,false,false,false,true,true,false],F_46 N,false⟩
theorem KI_34:CB 34:=cb Tryz.func34
noncomputable def I_47:InF:=⟨34,Tryz.f34,⟨[(0,⟨[.tmp 4 tI,.var 2 [some (.slice (.int .u8)),some tI,some tI]],rG 8 25,[],[],[]⟩)],[],[],[]⟩,[],false⟩
theorem K_46:CB 16:=cb Tryz.func16
noncomputable def L_46(N:Nat):MarkL:=[]
theorem Z_46(N:Nat):SN 16 (S_46 N):=sndX ⟨[((36,[]),S_35 N),((37,[]),S_40 N),((39,[]),S_45 N)],[],[I_47],[],[(35,.vio (S_19 N)),(38,.vio (S_1 N))]⟩ (L_46 N) ⟨[(0,⟨[.tmp 12 tI,.var 2 [some (.slice (.int .u8)),some tI,some tI],.row 5 TViolation],[13,26]++rG 31 25,[],[],[]⟩),(2,⟨[.tmp 13 tI,.var 2 [some (.slice (.int .u8)),some tI,some tI],.row 5 TViolation],[],[],[],[]⟩),(4,⟨[.tmp 14 tI,.var 2 [some (.slice (.int .u8)),some tI,some tI],.row 6 TWaiver],[15]++rG 58 40++[27,98,99,100,101],[],[],[]⟩)],[],[(3,TViolation),(4,TWaiver)],[]⟩ N ((q8 (Z_35 N) K_35 (q8 (Z_40 N) K_40 (q8 (Z_45 N) K_45 q11)))) (q50) ((q35 (Z_19 N) (cb Tryz.func35) (q35 (Z_1 N) K_1 q85))) Tryz.func16 (hi:=(q441 Tryz.func34 KI_34 q538))
def S_48(N:Nat):FnSpec:=⟨.pair (.slice (.int .u8)) .nil,(.pair TBlock (.pair (.slice TViolation) (.pair (.slice TWaiver) tN))),[false,false,false,false,false,true,true,false],F_48 N,false⟩
theorem Z_48(N:Nat):SN 6 (S_48 N):=snd ⟨[((16,[]),S_46 N)],[],[],[],[]⟩ ⟨[],[],[],[]⟩ N ((q8 (Z_46 N) K_46 q11)) Tryz.func6
def S_49(N:Nat):FnSpec:=⟨.pair tI (.pair tI tN),(.pair .bool .nil),[false],F_49 N,false⟩
theorem K_49:CB 53:=cb Tryz.func53
theorem Z_49(N:Nat):SN 53 (S_49 N):=snd ⟨[],[],[],[],[]⟩ ⟨[],[],[],[]⟩ N q11 Tryz.func53
def S_50(N:Nat):FnSpec:=⟨.pair .str .nil,(.pair .bool .nil),[false],F_50 N,false⟩
theorem K_50:CB 59:=cb Tryz.func59
theorem Z_50(N:Nat):SN 59 (S_50 N):=snd ⟨[((53,[]),S_49 N),((91,[]),q224 N),((92,[]),q119 N)],[],[],[],[]⟩ ⟨[],[],[],[]⟩ N ((q8 (Z_49 N) K_49 (q8 (q390 N) q387 (q8 (q252 N) q255 q11)))) Tryz.func59
def S_51(N:Nat):FnSpec:=⟨.pair (.slice TPin) .nil,tN,[false],F_51 N,false⟩
theorem K_51:CB 147:=cb Tryz.func147
theorem Z_51(N:Nat):SN 147 (S_51 N):=snd ⟨[],[],[],[],[]⟩ ⟨[],[],[],[]⟩ N q11 Tryz.func147
def S_52(N:Nat):FnSpec:=⟨.pair (.slice .str) (.pair .str .nil),tN,[false],F_52 N,false⟩
theorem Z_52(N:Nat):SN 152 (S_52 N):=snd ⟨[],[],[],[],[]⟩ ⟨[(0,⟨[.tmp 8 tI],[5]++rG 9 8++[18],[],[],[]⟩)],[],[],[]⟩ N q11 Tryz.func152
def S_53(N:Nat):FnSpec:=⟨.pair (.slice .str) (.pair .str .nil),(.pair .bool .nil),[false],F_53 N,false⟩
theorem Z_53(N:Nat):SN 134 (S_53 N):=snd ⟨[((152,[]),S_52 N)],[],[],[],[]⟩ ⟨[],[],[],[]⟩ N ((q8 (Z_52 N) (cb Tryz.func152) q11)) Tryz.func134
def S_54(N:Nat):FnSpec:=⟨.pair (.slice .str) .nil,(.pair .bool .nil),[false],F_54 N,false⟩
theorem K_54:CB 106:=cb Tryz.func106
theorem Z_54(N:Nat):SN 106 (S_54 N):=snd ⟨[((59,[]),S_50 N),((134,[]),S_53 N)],[],[],[],[]⟩ ⟨[(0,⟨[.tmp 7 tI],[3,4]++rG 8 15,[],[],[]⟩)],[],[],[]⟩ N ((q8 (Z_50 N) K_50 (q8 (Z_53 N) (cb Tryz.func134) q11))) Tryz.func106
def S_55(N:Nat):FnSpec:=⟨.pair (.slice TPin) .nil,(.pair .bool .nil),[false],F_55 N,false⟩
theorem Z_55(N:Nat):SN 131 (S_55 N):=snd ⟨[((53,[]),S_49 N),((106,[]),S_54 N),((147,[]),S_51 N)],[],[],[],[]⟩ ⟨[(0,⟨[.tmp 8 tI,.row 0 .str],[4,5]++rG 9 26++[44]++rG 35 9,[(3,.str),(3,.str)],[],[]⟩)],[],[],[]⟩ N ((q8 (Z_49 N) K_49 (q8 (Z_54 N) K_54 (q8 (Z_51 N) K_51 q11)))) Tryz.func131
def S_56(N:Nat):FnSpec:=⟨tN,(.pair .bool .nil),[false],F_56 N,false⟩
theorem K_56:CB 117:=cb Tryz.func117
theorem Z_56(N:Nat):SN 117 (S_56 N):=snd ⟨[],[],[],[],[]⟩ ⟨[],[],[],[]⟩ N q11 Tryz.func117
def S_57(N:Nat):FnSpec:=⟨.pair (.slice tI) .nil,tN,[false],F_57 N,false⟩
theorem K_57:CB 55:=cb Tryz.func55
theorem Z_57(N:Nat):SN 55 (S_57 N):=snd ⟨[],[],[],[],[]⟩ ⟨[],[],[],[]⟩ N q11 Tryz.func55
def S_58(N:Nat):FnSpec:=⟨.pair tI (.pair (.ptr tI) (.pair (.ptr tI) .nil)),(.pair .bool .nil),[false],F_58 N,false⟩
theorem Z_58(N:Nat):SN 112 (S_58 N):=snd ⟨[((53,[]),S_49 N)],[],[],[],[]⟩ ⟨[],[],[],[]⟩ N ((q8 (Z_49 N) K_49 q11)) Tryz.func112
def S_59(N:Nat):FnSpec:=⟨.pair (.slice tI) (.pair (.clo 112 (.pair (.ptr tI) (.pair (.ptr tI) .nil))) .nil),tN,[false],F_59 N,false⟩
theorem Z_59(N:Nat):SN 135 (S_59 N):=snd ⟨[((112,[]),S_58 N)],[],[],[],[]⟩ ⟨[(0,⟨[.tmp 8 tI],[5]++rG 9 8++[18],[],[],[]⟩)],[],[],[]⟩ N ((q8 (Z_58 N) (cb Tryz.func112) q11)) Tryz.func135
def S_60(N:Nat):FnSpec:=⟨.pair (.slice tI) (.pair (.clo 112 (.pair (.ptr tI) (.pair (.ptr tI) .nil))) .nil),(.pair .bool .nil),[false],F_60 N,false⟩
theorem Z_60(N:Nat):SN 108 (S_60 N):=snd ⟨[((135,[112]),S_59 N)],[],[],[],[]⟩ ⟨[],[],[],[]⟩ N ((q8 (Z_59 N) (cb Tryz.func135) q11)) Tryz.func108
def S_61(N:Nat):FnSpec:=⟨.pair (.slice tI) (.pair tI tN),(.pair .bool .nil),[false],F_61 N,false⟩
theorem K_61:CB 82:=cb Tryz.func82
theorem Z_61(N:Nat):SN 82 (S_61 N):=snd ⟨[((108,[112]),S_60 N)],[],[],[],[]⟩ ⟨[],[(1,[(4,some tI),(5,some tI)])],[],[]⟩ N ((q8 (Z_60 N) (cb Tryz.func108) q11)) Tryz.func82
def S_62(N:Nat):FnSpec:=⟨.pair (.slice tI) .nil,(.pair .bool .nil),[false],F_62 N,false⟩
theorem Z_62(N:Nat):SN 178 (S_62 N):=snd ⟨[],[],[],[],[]⟩ ⟨[(0,⟨[.tmp 3 tI],rG 4 16,[],[],[]⟩)],[],[],[]⟩ N q11 Tryz.func178
def S_63(N:Nat):FnSpec:=⟨.pair (.slice tI) .nil,(.pair .bool .nil),[false],F_63 N,false⟩
theorem Z_63(N:Nat):SN 176 (S_63 N):=snd ⟨[((53,[]),S_49 N),((55,[]),S_57 N),((82,[]),S_61 N),((178,[]),S_62 N)],[],[],[],[]⟩ ⟨[],[],[],[]⟩ N ((q8 (Z_49 N) K_49 (q8 (Z_57 N) K_57 (q8 (Z_61 N) K_61 (q8 (Z_62 N) (cb Tryz.func178) q11))))) Tryz.func176
def S_64(N:Nat):FnSpec:=⟨.pair TTable .nil,(.pair .bool .nil),[false],F_64 N,false⟩
theorem Z_64(N:Nat):SN 169 (S_64 N):=snd ⟨[((82,[]),S_61 N),((176,[]),S_63 N)],[],[],[],[]⟩ ⟨[],[],[],[]⟩ N ((q8 (Z_61 N) K_61 (q8 (Z_63 N) (cb Tryz.func176) q11))) Tryz.func169
def S_65(N:Nat):FnSpec:=⟨.pair (.slice tI) .nil,tN,[false],F_65 N,false⟩
theorem Z_65(N:Nat):SN 170 (S_65 N):=snd ⟨[],[],[],[],[]⟩ ⟨[(0,⟨[.tmp 3 tI,.tmp 4 tI],rG 12 12,[],[],[]⟩)],[],[],[]⟩ N q11 Tryz.func170
def S_66(N:Nat):FnSpec:=⟨.pair TTable (.pair (.ptr .bool) .nil),(.pair .bool .nil),[false],F_66 N,false⟩
theorem Z_66(N:Nat):SN 168 (S_66 N):=snd ⟨[((169,[]),S_64 N),((170,[]),S_65 N)],[],[],[],[]⟩ ⟨[],[],[],[]⟩ N ((q8 (Z_64 N) (cb Tryz.func169) (q8 (Z_65 N) (cb Tryz.func170) q11))) Tryz.func168
def S_67(N:Nat):FnSpec:=⟨.pair (.slice TTable) (.pair (.clo 168 (.pair (.ptr .bool) .nil)) .nil),tN,[false],F_67 N,false⟩
theorem Z_67(N:Nat):SN 175 (S_67 N):=snd ⟨[((168,[]),S_66 N)],[],[],[],[]⟩ ⟨[(0,⟨[.tmp 8 tI],[5]++rG 9 8++[18],[],[],[]⟩)],[],[],[]⟩ N ((q8 (Z_66 N) (cb Tryz.func168) q11)) Tryz.func175
def S_68(N:Nat):FnSpec:=⟨.pair (.slice TTable) (.pair (.clo 168 (.pair (.ptr .bool) .nil)) .nil),(.pair .bool .nil),[false],F_68 N,false⟩
theorem Z_68(N:Nat):SN 167 (S_68 N):=snd ⟨[((175,[168]),S_67 N)],[],[],[],[]⟩ ⟨[],[],[],[]⟩ N ((q8 (Z_67 N) (cb Tryz.func175) q11)) Tryz.func167
def S_69(N:Nat):FnSpec:=⟨.pair (.slice TTable) (.pair .bool .nil),(.pair .bool .nil),[false],F_69 N,false⟩
theorem Z_69(N:Nat):SN 158 (S_69 N):=snd ⟨[((167,[168]),S_68 N)],[],[],[],[]⟩ ⟨[],[(1,[(3,some .bool)])],[],[]⟩ N ((q8 (Z_68 N) (cb Tryz.func167) q11)) Tryz.func158
def S_70(N:Nat):FnSpec:=⟨.pair TPin .nil,(.pair .bool .nil),[false],F_70 N,false⟩
theorem Z_70(N:Nat):SN 172 (S_70 N):=snd ⟨[],[],[],[],[]⟩ ⟨[],[],[],[]⟩ N q11 Tryz.func172
def S_71(N:Nat):FnSpec:=⟨.pair (.slice TPin) (.pair (.clo 172 .nil) .nil),tN,[false],F_71 N,false⟩
theorem Z_71(N:Nat):SN 171 (S_71 N):=snd ⟨[((172,[]),S_70 N)],[],[],[],[]⟩ ⟨[(0,⟨[.tmp 8 tI],[5]++rG 9 8++[18],[],[],[]⟩)],[],[],[]⟩ N ((q8 (Z_70 N) (cb Tryz.func172) q11)) Tryz.func171
def S_72(N:Nat):FnSpec:=⟨.pair TCell .nil,tN,[false],F_72 N,false⟩
theorem Z_72(N:Nat):SN 159 (S_72 N):=snd ⟨[((171,[172]),S_71 N)],[],[],[],[]⟩ ⟨[],[],[],[]⟩ N ((q8 (Z_71 N) (cb Tryz.func171) q11)) Tryz.func159
def S_73(N:Nat):FnSpec:=⟨.pair TCell .nil,tN,[false],F_73 N,false⟩
theorem K_73:CB 150:=cb Tryz.func150
theorem Z_73(N:Nat):SN 150 (S_73 N):=snd ⟨[((147,[]),S_51 N)],[],[],[],[]⟩ ⟨[],[],[],[]⟩ N ((q8 (Z_51 N) K_51 q11)) Tryz.func150
def S_74(N:Nat):FnSpec:=⟨.pair TCell tN,(.pair .bool .nil),[false],F_74 N,false⟩
theorem Z_74(N:Nat):SN 160 (S_74 N):=snd ⟨[((53,[]),S_49 N),((150,[]),S_73 N)],[],[],[],[]⟩ ⟨[],[],[],[]⟩ N ((q8 (Z_49 N) K_49 (q8 (Z_73 N) K_73 q11))) Tryz.func160
def S_75(N:Nat):FnSpec:=⟨.pair TCell (.pair TArc .nil),(.pair .bool .nil),[false],F_75 N,false⟩
theorem Z_75(N:Nat):SN 148 (S_75 N):=snd ⟨[((53,[]),S_49 N),((117,[]),S_56 N),((150,[]),S_73 N),((158,[]),S_69 N),((159,[]),S_72 N),((160,[]),S_74 N)],[],[],[],[]⟩ ⟨[],[],[],[]⟩ N ((q8 (Z_49 N) K_49 (q8 (Z_56 N) K_56 (q8 (Z_73 N) K_73 (q8 (Z_69 N) (cb Tryz.func158) (q8 (Z_72 N) (cb Tryz.func159) (q8 (Z_74 N) (cb Tryz.func160) q11))))))) Tryz.func148
def S_76(N:Nat):FnSpec:=⟨.pair TArc (.pair (.ptr TArc) .nil),(.pair .bool .nil),[false],F_76 N,false⟩
theorem Z_76(N:Nat):SN 149 (S_76 N):=snd ⟨[],[],[],[],[]⟩ ⟨[],[],[],[]⟩ N q11 Tryz.func149
def S_77(N:Nat):FnSpec:=⟨.pair (.slice TArc) (.pair (.clo 149 (.pair (.ptr TArc) .nil)) .nil),tN,[false],F_77 N,false⟩
theorem Z_77(N:Nat):SN 136 (S_77 N):=snd ⟨[((149,[]),S_76 N)],[],[],[],[]⟩ ⟨[(0,⟨[.tmp 8 tI],[5]++rG 9 8++[18],[],[],[]⟩)],[],[],[]⟩ N ((q8 (Z_76 N) (cb Tryz.func149) q11)) Tryz.func136
def S_78(N:Nat):FnSpec:=⟨.pair (.slice TArc) (.pair (.clo 149 (.pair (.ptr TArc) .nil)) .nil),(.pair .bool .nil),[false],F_78 N,false⟩
theorem Z_78(N:Nat):SN 114 (S_78 N):=snd ⟨[((136,[149]),S_77 N)],[],[],[],[]⟩ ⟨[],[],[],[]⟩ N ((q8 (Z_77 N) (cb Tryz.func136) q11)) Tryz.func114
def S_79(N:Nat):FnSpec:=⟨.pair TCell .nil,(.pair .bool .nil),[false],F_79 N,false⟩
theorem Z_79(N:Nat):SN 132 (S_79 N):=snd ⟨[((114,[149]),S_78 N),((148,[]),S_75 N)],[],[],[],[]⟩ ⟨[(0,⟨[.tmp 8 tI],[3,4]++rG 9 17,[],[],[]⟩)],[(4,[(4,some TArc)])],[],[]⟩ N ((q8 (Z_78 N) (cb Tryz.func114) (q8 (Z_75 N) (cb Tryz.func148) q11))) Tryz.func132
def S_80(N:Nat):FnSpec:=⟨.pair TArc (.pair (.ptr tI) .nil),(.pair .bool .nil),[false],F_80 N,false⟩
theorem Z_80(N:Nat):SN 161 (S_80 N):=snd ⟨[],[],[],[],[]⟩ ⟨[],[],[],[]⟩ N q11 Tryz.func161
def S_81(N:Nat):FnSpec:=⟨.pair (.slice TArc) (.pair (.clo 161 (.pair (.ptr tI) .nil)) .nil),tN,[false],F_81 N,false⟩
theorem Z_81(N:Nat):SN 136 (S_81 N):=snd ⟨[((161,[]),S_80 N)],[],[],[],[]⟩ ⟨[(0,⟨[.tmp 8 tI],[5]++rG 9 8++[18],[],[],[]⟩)],[],[],[]⟩ N ((q8 (Z_80 N) (cb Tryz.func161) q11)) Tryz.func136
def S_82(N:Nat):FnSpec:=⟨.pair (.slice TArc) (.pair (.clo 161 (.pair (.ptr tI) .nil)) .nil),(.pair .bool .nil),[false],F_82 N,false⟩
theorem Z_82(N:Nat):SN 114 (S_82 N):=snd ⟨[((136,[161]),S_81 N)],[],[],[],[]⟩ ⟨[],[],[],[]⟩ N ((q8 (Z_81 N) (cb Tryz.func136) q11)) Tryz.func114
def S_83(N:Nat):FnSpec:=⟨.pair TCell tN,(.pair .bool .nil),[false],F_83 N,false⟩
theorem Z_83(N:Nat):SN 151 (S_83 N):=snd ⟨[((114,[161]),S_82 N)],[],[],[],[]⟩ ⟨[],[(1,[(3,some tI)])],[],[]⟩ N ((q8 (Z_82 N) (cb Tryz.func114) q11)) Tryz.func151
def S_84(N:Nat):FnSpec:=⟨.pair TCell .nil,(.pair .bool .nil),[false],F_84 N,false⟩
theorem Z_84(N:Nat):SN 133 (S_84 N):=snd ⟨[((82,[]),S_61 N),((150,[]),S_73 N),((151,[]),S_83 N)],[],[],[],[]⟩ ⟨[(0,⟨[.tmp 3 tI,.tmp 9 tI],[5]++rG 10 8,[],[],[]⟩)],[],[],[]⟩ N ((q8 (Z_61 N) K_61 (q8 (Z_73 N) K_73 (q8 (Z_83 N) (cb Tryz.func151) q11)))) Tryz.func133
def S_85(N:Nat):FnSpec:=⟨.pair TCell .nil,(.pair .bool .nil),[false],F_85 N,false⟩
theorem Z_85(N:Nat):SN 105 (S_85 N):=snd ⟨[((53,[]),S_49 N),((59,[]),S_50 N),((131,[]),S_55 N),((132,[]),S_79 N),((133,[]),S_84 N)],[],[],[],[]⟩ ⟨[],[],[],[]⟩ N ((q8 (Z_49 N) K_49 (q8 (Z_50 N) K_50 (q8 (Z_55 N) (cb Tryz.func131) (q8 (Z_79 N) (cb Tryz.func132) (q8 (Z_84 N) (cb Tryz.func133) q11)))))) Tryz.func105
def S_86(N:Nat):FnSpec:=⟨.pair TLibrary .nil,(.pair .bool .nil),[false],F_86 N,false⟩
theorem Z_86(N:Nat):SN 75 (S_86 N):=snd ⟨[((105,[]),S_85 N),((106,[]),S_54 N)],[],[],[],[]⟩ ⟨[(0,⟨[.tmp 9 tI,.row 1 .str],[5]++rG 10 12,[(3,.str)],[],[]⟩)],[],[],[]⟩ N ((q8 (Z_85 N) (cb Tryz.func105) (q8 (Z_54 N) K_54 q11))) Tryz.func75
def S_87(N:Nat):FnSpec:=⟨.pair TDesign .nil,(.pair .bool .nil),[false],F_87 N,false⟩
theorem Z_87(N:Nat):SN 76 (S_87 N):=snd ⟨[((106,[]),S_54 N)],[],[],[],[]⟩ ⟨[(0,⟨[.tmp 12 tI,.row 1 .str],[6]++rG 13 9,[(3,.str)],[],[]⟩),(2,⟨[.tmp 25 tI,.row 2 .str],[8]++rG 26 9,[(4,.str)],[],[]⟩)],[],[],[]⟩ N ((q8 (Z_54 N) K_54 q11)) Tryz.func76
def S_88(N:Nat):FnSpec:=⟨.pair (.slice TCell) .nil,tN,[false],F_88 N,false⟩
theorem Z_88(N:Nat):SN 107 (S_88 N):=snd ⟨[],[],[],[],[]⟩ ⟨[],[],[],[]⟩ N q11 Tryz.func107
def S_89(N:Nat):FnSpec:=⟨.pair (.slice .str) .nil,tN,[false],F_89 N,false⟩
theorem Z_89(N:Nat):SN 110 (S_89 N):=snd ⟨[],[],[],[],[]⟩ ⟨[],[],[],[]⟩ N q11 Tryz.func110
def S_90(N:Nat):FnSpec:=⟨.pair TDesign tN,(.pair .bool .nil),[false],F_90 N,false⟩
theorem K_90:CB 78:=cb Tryz.func78
theorem Z_90(N:Nat):SN 78 (S_90 N):=snd ⟨[((53,[]),S_49 N),((110,[]),S_89 N)],[],[],[],[]⟩ ⟨[],[],[],[]⟩ N ((q8 (Z_49 N) K_49 (q8 (Z_89 N) (cb Tryz.func110) q11))) Tryz.func78
def S_91(N:Nat):FnSpec:=⟨.pair tI (.pair (.ptr TDesign) .nil),(.pair .bool .nil),[false],F_91 N,false⟩
theorem Z_91(N:Nat):SN 109 (S_91 N):=snd ⟨[((78,[]),S_90 N)],[],[],[],[]⟩ ⟨[],[],[],[]⟩ N ((q8 (Z_90 N) K_90 q11)) Tryz.func109
def S_92(N:Nat):FnSpec:=⟨.pair (.slice tI) (.pair (.clo 109 (.pair (.ptr TDesign) .nil)) .nil),tN,[false],F_92 N,false⟩
theorem Z_92(N:Nat):SN 135 (S_92 N):=snd ⟨[((109,[]),S_91 N)],[],[],[],[]⟩ ⟨[(0,⟨[.tmp 8 tI],[5]++rG 9 8++[18],[],[],[]⟩)],[],[],[]⟩ N ((q8 (Z_91 N) (cb Tryz.func109) q11)) Tryz.func135
def S_93(N:Nat):FnSpec:=⟨.pair (.slice tI) (.pair (.clo 109 (.pair (.ptr TDesign) .nil)) .nil),(.pair .bool .nil),[false],F_93 N,false⟩
theorem Z_93(N:Nat):SN 108 (S_93 N):=snd ⟨[((135,[109]),S_92 N)],[],[],[],[]⟩ ⟨[],[],[],[]⟩ N ((q8 (Z_92 N) (cb Tryz.func135) q11)) Tryz.func108
def S_94(N:Nat):FnSpec:=⟨.pair TDesign (.pair TLibrary (.pair TInstance .nil)),(.pair .bool .nil),[false],F_94 N,false⟩
theorem Z_94(N:Nat):SN 77 (S_94 N):=snd ⟨[((53,[]),S_49 N),((107,[]),S_88 N),((108,[109]),S_93 N)],[],[],[],[]⟩ ⟨[],[(1,[(3,some TDesign)])],[],[]⟩ N ((q8 (Z_49 N) K_49 (q8 (Z_88 N) (cb Tryz.func107) (q8 (Z_93 N) (cb Tryz.func108) q11)))) Tryz.func77
def S_95(N:Nat):FnSpec:=⟨tN,(.pair .bool .nil),[false],F_95 N,false⟩
theorem Z_95(N:Nat):SN 80 (S_95 N):=snd ⟨[],[],[],[],[]⟩ ⟨[],[],[],[]⟩ N q11 Tryz.func80
def S_96(N:Nat):FnSpec:=⟨.pair (.slice tI) (.pair (.clo 80 .nil) .nil),tN,[false],F_96 N,false⟩
theorem Z_96(N:Nat):SN 111 (S_96 N):=snd ⟨[((80,[]),S_95 N)],[],[],[],[]⟩ ⟨[(0,⟨[.tmp 8 tI],[5]++rG 9 8++[18],[],[],[]⟩)],[],[],[]⟩ N ((q8 (Z_95 N) (cb Tryz.func80) q11)) Tryz.func111
def S_97(N:Nat):FnSpec:=⟨.pair (.slice tI) (.pair (.clo 80 .nil) .nil),(.pair .bool .nil),[false],F_97 N,false⟩
theorem Z_97(N:Nat):SN 79 (S_97 N):=snd ⟨[((111,[80]),S_96 N)],[],[],[],[]⟩ ⟨[],[],[],[]⟩ N ((q8 (Z_96 N) (cb Tryz.func111) q11)) Tryz.func79
def S_98(N:Nat):FnSpec:=⟨.pair TLibrary (.pair TDesign .nil),(.pair .bool .nil),[false],F_98 N,false⟩
theorem Z_98(N:Nat):SN 50 (S_98 N):=snd ⟨[((75,[]),S_86 N),((76,[]),S_87 N),((77,[]),S_94 N),((78,[]),S_90 N),((79,[80]),S_97 N)],[],[],[],[]⟩ ⟨[(0,⟨[.tmp 25 tI,.row 2 tI],[7]++rG 26 22,[],[],[]⟩),(2,⟨[.tmp 51 tI,.row 2 tI],[9]++rG 52 29,[],[],[]⟩)],[],[],[]⟩ N ((q8 (Z_86 N) (cb Tryz.func75) (q8 (Z_87 N) (cb Tryz.func76) (q8 (Z_94 N) (cb Tryz.func77) (q8 (Z_90 N) K_90 (q8 (Z_97 N) (cb Tryz.func79) q11)))))) Tryz.func50
def S_99(N:Nat):FnSpec:=⟨.pair TDesign .nil,(.pair (.slice Tl05Place) .nil),[true],F_99 N,false⟩
theorem K_99:CB 51:=cb Tryz.func51
theorem Z_99(N:Nat):SN 51 (S_99 N):=snd ⟨[],[],[],[],[]⟩ ⟨[(0,⟨[.tmp 13 tI,.row 1 Tl05Place],[4,5,6,7]++rG 14 27,[(3,Tl05Place)],[],[]⟩),(2,⟨[.tmp 21 tI,.row 1 Tl05Place],[],[],[],[]⟩),(4,⟨[.tmp 44 tI,.row 1 Tl05Place],[8,9]++rG 45 15,[],[],[]⟩)],[],[],[]⟩ N q11 Tryz.func51
def S_100(N:Nat):FnSpec:=⟨.pair TWire .nil,(.pair .bool .nil),[false],F_100 N,false⟩
theorem Z_100(N:Nat):SN 81 (S_100 N):=snd ⟨[((53,[]),S_49 N)],[],[],[],[]⟩ ⟨[(0,⟨[.tmp 8 tI],[3,4]++rG 9 29,[],[],[]⟩)],[],[],[]⟩ N ((q8 (Z_49 N) K_49 q11)) Tryz.func81
def S_101(N:Nat):FnSpec:=⟨.pair TWire tN,(.pair .bool .nil),[false],F_101 N,false⟩
theorem Z_101(N:Nat):SN 52 (S_101 N):=snd ⟨[((53,[]),S_49 N),((55,[]),S_57 N),((81,[]),S_100 N),((82,[]),S_61 N)],[],[],[],[]⟩ ⟨[],[],[],[]⟩ N ((q8 (Z_49 N) K_49 (q8 (Z_57 N) K_57 (q8 (Z_100 N) (cb Tryz.func81) (q8 (Z_61 N) K_61 q11))))) Tryz.func52
def S_102(N:Nat):FnSpec:=⟨.pair TBlock .nil,(.pair .bool .nil),[false],F_102 N,false⟩
theorem K_102:CB 22:=cb Tryz.func22
theorem Z_102(N:Nat):SN 22 (S_102 N):=snd ⟨[((50,[]),S_98 N),((51,[]),S_99 N),((52,[]),S_101 N)],[],[],[],[]⟩ ⟨[(0,⟨[.tmp 32 tI,.row 1 tI],[5]++rG 33 14,[],[],[]⟩),(2,⟨[.tmp 50 tI],[6,7]++rG 51 12,[],[],[]⟩)],[],[],[]⟩ N ((q8 (Z_98 N) (cb Tryz.func50) (q8 (Z_99 N) K_99 (q8 (Z_101 N) (cb Tryz.func52) q11)))) Tryz.func22
def S_103(N:Nat):FnSpec:=⟨.pair TArc .nil,(.pair (.slice TSpan) .nil),[true],F_103 N,false⟩
theorem Z_103(N:Nat):SN 83 (S_103 N):=snd ⟨[],[],[],[],[]⟩ ⟨[],[],[(2,TSpan)],[]⟩ N q11 Tryz.func83
def S_104(N:Nat):FnSpec:=⟨.pair TBlock (.pair TInstance tN),(.pair (.slice TLink) .nil),[true],F_104 N,false⟩
theorem Z_104(N:Nat):SN 54 (S_104 N):=snd ⟨[((83,[]),S_103 N)],[],[],[],[]⟩ ⟨[(0,⟨[.tmp 21 tI,.row 2 TLink],[8,9,11]++rG 22 34,[(7,TLink)],[],[]⟩),(2,⟨[.tmp 29 tI,.row 2 TLink],[],[],[],[]⟩)],[],[],[]⟩ N ((q8 (Z_103 N) (cb Tryz.func83) q11)) Tryz.func54
def S_105(N:Nat):FnSpec:=⟨.pair (.slice tI) .nil,(.pair (.slice tI) .nil),[true],F_105 N,false⟩
def H_105:Hints:=⟨[],[],[(2,tI)],[]⟩
noncomputable def C_105(N:Nat):Ctx:=⟨[],[],[],[],[]⟩
theorem E_105(N:Nat)(xs:List (Ty.den tI)):pevFnW Tryz.prog (C_105 N) N H_105 (S_105 N) Tryz.f84 [.one (.sln tI xs)]=F_105 N (xs,()):=by kernel_rfl
theorem E0_105(N:Nat):pevFnW Tryz.prog (C_105 N) N H_105 (S_105 N) Tryz.f84 [.one (.slz tI)]=F_105 N ([],()):=by kernel_rfl
theorem Z_105(N:Nat):Sound Tryz.prog PRE 84 (S_105 N):=q101 (C:=C_105 N) (H:=H_105) (N:=N) (e:=tI) (rs:=(.pair (.slice tI) .nil)) (own:=[true]) (F:=F_105 N) (q301 q300 (by kernel_rfl) q11) Tryz.func84 (fun xs r h=>(E_105 N xs).trans h) (fun r h=>(E0_105 N).trans h)
def S_106(N:Nat):FnSpec:=⟨.pair TDesign tN,(.pair (.slice tI) .nil),[true],F_106 N,false⟩
theorem Z_106(N:Nat):SN 85 (S_106 N):=snd ⟨[((51,[]),S_99 N)],[],[],[],[]⟩ ⟨[(0,⟨[.tmp 11 tI,.row 2 tI],[6,7]++rG 12 18,[(5,tI)],[],[]⟩)],[],[],[]⟩ N ((q8 (Z_99 N) K_99 q11)) Tryz.func85
def S_107(N:Nat):FnSpec:=⟨.pair TDesign (.pair TLibrary (.pair Tl05Place .nil)),tN,[false],F_107 N,false⟩
theorem Z_107(N:Nat):SN 86 (S_107 N):=snd ⟨[],[],[],[],[]⟩ ⟨[],[],[],[]⟩ N q11 Tryz.func86
def S_108(N:Nat):FnSpec:=⟨.pair TBlock tN,(.pair (.slice tI) .nil),[true],F_108 N,false⟩
theorem K_108:CB 56:=cb Tryz.func56
theorem Z_108(N:Nat):SN 56 (S_108 N):=snd ⟨[((51,[]),S_99 N),((84,[]),S_105 N),((85,[]),S_106 N),((86,[]),S_107 N)],[],[],[],[]⟩ ⟨[(0,⟨[.tmp 27 tI,.row 2 tI],[8,9]++rG 28 24,[],[],[]⟩),(2,⟨[.tmp 10 tI,.row 2 tI],rG 55 18,[],[],[]⟩)],[],[],[]⟩ N ((q8 (Z_99 N) K_99 (q8 (Z_105 N) (cb Tryz.func84) (q8 (Z_106 N) (cb Tryz.func85) (q8 (Z_107 N) (cb Tryz.func86) q11))))) Tryz.func56
end Go.Proofs.YtaljimgiglekhaaGreatDoor
