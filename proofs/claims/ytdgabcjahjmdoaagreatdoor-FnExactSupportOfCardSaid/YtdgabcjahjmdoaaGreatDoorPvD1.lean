/- The functions' contracts. Printed by my dec.py. No condition of its own. -/
import Derived.Test.YtdgabcjahjmdoaaGreatDoorPgL
import Derived.Test.YtdgabcjahjmdoaaGreatDoorPvF1
import Derived.Test.YtdgabcjahjmdoaaGreatDoorProg
import Derived.Test.YtdgabcjahjmdoaaGreatDoorPgG
namespace Go.Proofs.YtdgabcjahjmdoaaGreatDoor
abbrev tI:Ty:=.int .i64
abbrev tN:Ty:=.pair tI .nil
abbrev rG:=List.range'
open Go.RowKit
set_option maxRecDepth 100000
set_option linter.unusedVariables false
abbrev CB(f:FuncId):Prop:=q11 Tryz.prog f
theorem cb{f : FuncId}{fn : Func}(h : Tryz.prog.funcs[f]? = some fn)(h1 : fn.body.isNone = false := by kernel_rfl)(h2 : (fn.name == "runtime.NumGoroutine") = false := by kernel_rfl) : CB f := ⟨_, h, h1, h2⟩
abbrev SN(f:FuncId)(S:FnSpec):Prop:=Sound Tryz.prog PRE f S
theorem snd(C:Ctx)(H:Hints)(N:Nat){f:FuncId}{fn:Func}{S:FnSpec}(hc:∀ p∈C.fns,Sound Tryz.prog PRE p.1.1 p.2/\q11 Tryz.prog p.1.1)(hf:Tryz.prog.funcs[f]?=some fn)(hm:Tryz.prog.follows .mixedOrders=true:=by kernel_rfl)(hp:q78 S.ps=true:=by kernel_rfl)
 (h:∀ x,pevFn Tryz.prog C N H S fn x=S.fn x:=by intro x; kernel_rfl) (hi:∀ x∈C.inl,Tryz.prog.funcs[x.fid]?=some x.fn/\q11 Tryz.prog x.fid:=by intro x hx; cases hx) (ht:∀ w,PRE w->TabsAt C.tabs w:=by exact fun w _=>q119 w) (hio:∀ p∈C.io,HookOk Tryz.prog p.1 p.2/\q11 Tryz.prog p.1:=by intro p hp; cases hp):SN f S:=
 q326 (C:=C) (H:=H) (N:=N) (q363 q446 hm hc hi ht hio) hf hp (fun x r k=>(h x).trans k)
theorem sndM(C:Ctx)(L:MarkL)(H:Hints)(N:Nat){f:FuncId}{fn:Func}{S:FnSpec}(hc:∀ p∈C.fns,Sound Tryz.prog PRE p.1.1 p.2/\q11 Tryz.prog p.1.1)(hL:∀ p∈L,MarkOk Tryz.prog p.1 p.2/\q11 Tryz.prog p.1)(hf:Tryz.prog.funcs[f]?=some fn)(hm:Tryz.prog.follows .mixedOrders=true:=by kernel_rfl)(hp:q78 S.ps=true:=by kernel_rfl)
 (h:∀ x,pevFnM Tryz.prog C L N H S fn x=S.fn x:=by intro x; kernel_rfl) (hi:∀ x∈C.inl,Tryz.prog.funcs[x.fid]?=some x.fn/\q11 Tryz.prog x.fid:=by intro x hx; cases hx) (ht:∀ w,PRE w->TabsAt C.tabs w:=by exact fun w _=>q119 w) (hio:∀ p∈C.io,HookOk Tryz.prog p.1 p.2/\q11 Tryz.prog p.1:=by intro p hp; cases hp):SN f S:=
 q427 (C:=C) (H:=H) (N:=N) (L:=L) (q363 q446 hm hc hi ht hio) hL hf hp (fun x r k=>(h x).trans k)
theorem sndX(C:Ctx)(L:MarkL)(H:Hints)(N:Nat){f:FuncId}{fn:Func}{S:FnSpec}(hc:∀ p∈C.fns,Sound Tryz.prog PRE p.1.1 p.2/\q11 Tryz.prog p.1.1)(hL:∀ p∈L,MarkOk Tryz.prog p.1 p.2/\q11 Tryz.prog p.1)(hio:∀ p∈C.io,HookOk Tryz.prog p.1 p.2/\q11 Tryz.prog p.1)(hf:Tryz.prog.funcs[f]?=some fn)(hm:Tryz.prog.follows .mixedOrders=true:=by kernel_rfl)(hp:q78 S.ps=true:=by kernel_rfl)
 (h:∀ x,pevFnX Tryz.prog C L N H S fn x=S.fn x:=by intro x; kernel_rfl) (hi:∀ x∈C.inl,Tryz.prog.funcs[x.fid]?=some x.fn/\q11 Tryz.prog x.fid:=by intro x hx; cases hx) (ht:∀ w,PRE w->TabsAt C.tabs w:=by exact fun w _=>q119 w):SN f S:=
 q431 (C:=C) (H:=H) (N:=N) (L:=L) (q363 q446 hm hc hi ht hio) hL hf hp (fun x r k=>(h x).trans k)
theorem sndIO(C:Ctx)(L:MarkL)(H:Hints)(N:Nat){f:FuncId}{fn:Func}{S:IoSpec}(hc:∀ p∈C.fns,Sound Tryz.prog PRE p.1.1 p.2/\q11 Tryz.prog p.1.1)(hL:∀ p∈L,MarkOk Tryz.prog p.1 p.2/\q11 Tryz.prog p.1)(hio:∀ p∈C.io,HookOk Tryz.prog p.1 p.2/\q11 Tryz.prog p.1)(hf:Tryz.prog.funcs[f]?=some fn)(hm:Tryz.prog.follows .mixedOrders=true:=by kernel_rfl)
 (h:∀ x,q560 Tryz.prog C L N H S fn x=S.fn x:=by intro x; kernel_rfl) (hi:∀ x∈C.inl,Tryz.prog.funcs[x.fid]?=some x.fn/\q11 Tryz.prog x.fid:=by intro x hx; cases hx) (ht:∀ w,PRE w->TabsAt C.tabs w:=by exact fun w _=>q119 w) (hT:∀ w,PRE w:=by exact fun _=>trivial):IoOk Tryz.prog f S:=
 q687 (C:=C) (H:=H) (N:=N) (L:=L) (q363 q446 hm hc hi ht hio) hT hL hf (fun x r k=>(h x).trans k)
def S_0(N:Nat):FnSpec:=⟨.pair TPin tN,tN,[false],F_0 N,false⟩
theorem Z_0(N:Nat):SN 223 (S_0 N):=snd ⟨[],[],[],[],[]⟩ ⟨[],[],[],[]⟩ N q10 Tryz.func223
def S_1(N:Nat):FnSpec:=⟨.pair (.slice TPin) tN,tN,[false],F_1 N,false⟩
theorem Z_1(N:Nat):SN 168 (S_1 N):=snd ⟨[((223,[]),S_0 N)],[],[],[],[]⟩ ⟨[(0,⟨[.tmp 1 tI,.tmp 5 tI],rG 12 14,[],[]⟩)],[],[],[]⟩ N ((q8 (Z_0 N) (cb Tryz.func223) q10)) Tryz.func168
def S_2(N:Nat):FnSpec:=⟨.pair (.slice tI) tN,tN,[false],F_2 N,false⟩
theorem K_2:CB 114:=cb Tryz.func114
theorem Z_2(N:Nat):SN 114 (S_2 N):=snd ⟨[],[],[],[],[]⟩ ⟨[],[],[],[]⟩ N q10 Tryz.func114
def S_3(N:Nat):FnSpec:=⟨.pair TTable tN,tN,[false],F_3 N,false⟩
theorem Z_3(N:Nat):SN 295 (S_3 N):=snd ⟨[((114,[]),S_2 N)],[],[],[],[]⟩ ⟨[],[],[],[]⟩ N ((q8 (Z_2 N) K_2 q10)) Tryz.func295
def S_4(N:Nat):FnSpec:=⟨.pair (.slice TTable) tN,tN,[false],F_4 N,false⟩
theorem Z_4(N:Nat):SN 266 (S_4 N):=snd ⟨[((295,[]),S_3 N)],[],[],[],[]⟩ ⟨[(0,⟨[.tmp 1 tI,.tmp 5 tI],rG 12 14,[],[]⟩)],[],[],[]⟩ N ((q8 (Z_3 N) (cb Tryz.func295) q10)) Tryz.func266
def S_5(N:Nat):FnSpec:=⟨.pair TArc tN,tN,[false],F_5 N,false⟩
theorem Z_5(N:Nat):SN 224 (S_5 N):=snd ⟨[((266,[]),S_4 N)],[],[],[],[]⟩ ⟨[],[],[],[]⟩ N ((q8 (Z_4 N) (cb Tryz.func266) q10)) Tryz.func224
def S_6(N:Nat):FnSpec:=⟨.pair (.slice TArc) tN,tN,[false],F_6 N,false⟩
theorem Z_6(N:Nat):SN 169 (S_6 N):=snd ⟨[((224,[]),S_5 N)],[],[],[],[]⟩ ⟨[(0,⟨[.tmp 1 tI,.tmp 5 tI],rG 12 14,[],[]⟩)],[],[],[]⟩ N ((q8 (Z_5 N) (cb Tryz.func224) q10)) Tryz.func169
def S_7(N:Nat):FnSpec:=⟨.pair TCell tN,tN,[false],F_7 N,false⟩
theorem Z_7(N:Nat):SN 111 (S_7 N):=snd ⟨[((114,[]),S_2 N),((168,[]),S_1 N),((169,[]),S_6 N)],[],[],[],[]⟩ ⟨[],[],[],[]⟩ N ((q8 (Z_2 N) K_2 (q8 (Z_1 N) (cb Tryz.func168) (q8 (Z_6 N) (cb Tryz.func169) q10)))) Tryz.func111
def S_8(N:Nat):FnSpec:=⟨.pair (.slice TCell) tN,tN,[false],F_8 N,false⟩
theorem Z_8(N:Nat):SN 61 (S_8 N):=snd ⟨[((111,[]),S_7 N)],[],[],[],[]⟩ ⟨[(0,⟨[.tmp 1 tI,.tmp 5 tI],rG 12 14,[],[]⟩)],[],[],[]⟩ N ((q8 (Z_7 N) (cb Tryz.func111) q10)) Tryz.func61
def S_9(N:Nat):FnSpec:=⟨.pair TLibrary tN,tN,[false],F_9 N,false⟩
theorem Z_9(N:Nat):SN 28 (S_9 N):=snd ⟨[((61,[]),S_8 N)],[],[],[],[]⟩ ⟨[],[],[],[]⟩ N ((q8 (Z_8 N) (cb Tryz.func61) q10)) Tryz.func28
def S_10(N:Nat):FnSpec:=⟨.pair TInstance tN,tN,[false],F_10 N,false⟩
theorem Z_10(N:Nat):SN 112 (S_10 N):=snd ⟨[((114,[]),S_2 N)],[],[],[],[]⟩ ⟨[],[],[],[]⟩ N ((q8 (Z_2 N) K_2 q10)) Tryz.func112
def S_11(N:Nat):FnSpec:=⟨.pair (.slice TInstance) tN,tN,[false],F_11 N,false⟩
theorem Z_11(N:Nat):SN 62 (S_11 N):=snd ⟨[((112,[]),S_10 N)],[],[],[],[]⟩ ⟨[(0,⟨[.tmp 1 tI,.tmp 5 tI],rG 12 14,[],[]⟩)],[],[],[]⟩ N ((q8 (Z_10 N) (cb Tryz.func112) q10)) Tryz.func62
def S_12(N:Nat):FnSpec:=⟨.pair (.slice .str) tN,tN,[false],F_12 N,false⟩
theorem Z_12(N:Nat):SN 63 (S_12 N):=snd ⟨[],[],[],[],[]⟩ ⟨[(0,⟨[.tmp 1 tI,.tmp 5 tI],rG 12 15,[],[]⟩)],[],[],[]⟩ N q10 Tryz.func63
def S_13(N:Nat):FnSpec:=⟨.pair TPort tN,tN,[false],F_13 N,false⟩
theorem Z_13(N:Nat):SN 113 (S_13 N):=snd ⟨[],[],[],[],[]⟩ ⟨[],[],[],[]⟩ N q10 Tryz.func113
def S_14(N:Nat):FnSpec:=⟨.pair (.slice TPort) tN,tN,[false],F_14 N,false⟩
theorem Z_14(N:Nat):SN 64 (S_14 N):=snd ⟨[((113,[]),S_13 N)],[],[],[],[]⟩ ⟨[(0,⟨[.tmp 1 tI,.tmp 5 tI],rG 12 14,[],[]⟩)],[],[],[]⟩ N ((q8 (Z_13 N) (cb Tryz.func113) q10)) Tryz.func64
def S_15(N:Nat):FnSpec:=⟨.pair TDesign tN,tN,[false],F_15 N,false⟩
theorem Z_15(N:Nat):SN 29 (S_15 N):=snd ⟨[((62,[]),S_11 N),((63,[]),S_12 N),((64,[]),S_14 N)],[],[],[],[]⟩ ⟨[],[],[],[]⟩ N ((q8 (Z_11 N) (cb Tryz.func62) (q8 (Z_12 N) (cb Tryz.func63) (q8 (Z_14 N) (cb Tryz.func64) q10)))) Tryz.func29
def S_16(N:Nat):FnSpec:=⟨.pair TWire tN,tN,[false],F_16 N,false⟩
theorem Z_16(N:Nat):SN 65 (S_16 N):=snd ⟨[((114,[]),S_2 N)],[],[],[],[]⟩ ⟨[],[],[],[]⟩ N ((q8 (Z_2 N) K_2 q10)) Tryz.func65
def S_17(N:Nat):FnSpec:=⟨.pair (.slice TWire) tN,tN,[false],F_17 N,false⟩
theorem Z_17(N:Nat):SN 30 (S_17 N):=snd ⟨[((65,[]),S_16 N)],[],[],[],[]⟩ ⟨[(0,⟨[.tmp 1 tI,.tmp 5 tI],rG 12 14,[],[]⟩)],[],[],[]⟩ N ((q8 (Z_16 N) (cb Tryz.func65) q10)) Tryz.func30
def S_18(N:Nat):FnSpec:=⟨.pair TBlock tN,tN,[false],F_18 N,false⟩
theorem Z_18(N:Nat):SN 5 (S_18 N):=snd ⟨[((28,[]),S_9 N),((29,[]),S_15 N),((30,[]),S_17 N)],[],[],[],[]⟩ ⟨[],[],[],[]⟩ N ((q8 (Z_9 N) (cb Tryz.func28) (q8 (Z_15 N) (cb Tryz.func29) (q8 (Z_17 N) (cb Tryz.func30) q10)))) Tryz.func5
def S_19(N:Nat):FnSpec:=⟨.pair TPin .nil,(.pair TPin .nil),[false,false,false,false],F_19 N,true⟩
theorem Z_19(N:Nat):SN 230 (S_19 N):=snd ⟨[],[],[],[],[]⟩ ⟨[],[],[],[]⟩ N q10 Tryz.func230
def S_20(N:Nat):FnSpec:=⟨.pair (.slice TPin) .nil,(.pair (.slice TPin) .nil),[true],F_20 N,true⟩
theorem Z_20(N:Nat):SN 176 (S_20 N):=snd ⟨[((230,[]),S_19 N)],[],[],[],[]⟩ ⟨[(0,⟨[.tmp 4 tI,.row 0 TPin],rG 8 14,[],[]⟩)],[],[],[]⟩ N ((q8 (Z_19 N) (cb Tryz.func230) q10)) Tryz.func176
def S_21(N:Nat):FnSpec:=⟨.pair (.slice tI) .nil,(.pair (.slice tI) .nil),[true],F_21 N,true⟩
theorem K_21:CB 11:=cb Tryz.func11
theorem Z_21(N:Nat):SN 11 (S_21 N):=snd ⟨[],[],[],[],[]⟩ ⟨[(0,⟨[.tmp 4 tI,.row 0 tI],rG 8 13,[],[]⟩)],[],[],[]⟩ N q10 Tryz.func11
def S_22(N:Nat):FnSpec:=⟨.pair TTable .nil,(.pair TTable .nil),[true,true,true],F_22 N,true⟩
theorem Z_22(N:Nat):SN 301 (S_22 N):=snd ⟨[((11,[]),S_21 N)],[],[],[],[]⟩ ⟨[],[],[],[]⟩ N ((q8 (Z_21 N) K_21 q10)) Tryz.func301
def S_23(N:Nat):FnSpec:=⟨.pair (.slice TTable) .nil,(.pair (.slice TTable) .nil),[true],F_23 N,true⟩
theorem Z_23(N:Nat):SN 275 (S_23 N):=snd ⟨[((301,[]),S_22 N)],[1000007],[],[],[]⟩ ⟨[(0,⟨[.tmp 4 tI,.drow 0 TTable],rG 8 14,[],[]⟩)],[],[],[]⟩ N ((q8 (Z_22 N) (cb Tryz.func301) q10)) Tryz.func275
def S_24(N:Nat):FnSpec:=⟨.pair TArc .nil,(.pair TArc .nil),[false,false,false,false,true,true],F_24 N,true⟩
theorem Z_24(N:Nat):SN 231 (S_24 N):=snd ⟨[((275,[]),S_23 N)],[],[],[],[]⟩ ⟨[],[],[],[]⟩ N ((q8 (Z_23 N) (cb Tryz.func275) q10)) Tryz.func231
def S_25(N:Nat):FnSpec:=⟨.pair (.slice TArc) .nil,(.pair (.slice TArc) .nil),[true],F_25 N,true⟩
theorem Z_25(N:Nat):SN 177 (S_25 N):=snd ⟨[((231,[]),S_24 N)],[1000007],[],[],[]⟩ ⟨[(0,⟨[.tmp 4 tI,.drow 0 TArc],rG 8 14,[],[]⟩)],[],[],[]⟩ N ((q8 (Z_24 N) (cb Tryz.func231) q10)) Tryz.func177
def S_26(N:Nat):FnSpec:=⟨.pair TCell .nil,(.pair TCell .nil),[false,false,true,true,true,false,false],F_26 N,true⟩
theorem Z_26(N:Nat):SN 132 (S_26 N):=snd ⟨[((11,[]),S_21 N),((176,[]),S_20 N),((177,[]),S_25 N)],[],[],[],[]⟩ ⟨[],[],[],[]⟩ N ((q8 (Z_21 N) K_21 (q8 (Z_20 N) (cb Tryz.func176) (q8 (Z_25 N) (cb Tryz.func177) q10)))) Tryz.func132
def S_27(N:Nat):FnSpec:=⟨.pair (.slice TCell) .nil,(.pair (.slice TCell) .nil),[true],F_27 N,true⟩
theorem Z_27(N:Nat):SN 74 (S_27 N):=snd ⟨[((132,[]),S_26 N)],[1000007],[],[],[]⟩ ⟨[(0,⟨[.tmp 4 tI,.drow 0 TCell],rG 8 14,[],[]⟩)],[],[],[]⟩ N ((q8 (Z_26 N) (cb Tryz.func132) q10)) Tryz.func74
def S_28(N:Nat):FnSpec:=⟨.pair TLibrary .nil,(.pair TLibrary .nil),[true],F_28 N,true⟩
theorem Z_28(N:Nat):SN 35 (S_28 N):=snd ⟨[((74,[]),S_27 N)],[],[],[],[]⟩ ⟨[],[],[],[]⟩ N ((q8 (Z_27 N) (cb Tryz.func74) q10)) Tryz.func35
def S_29(N:Nat):FnSpec:=⟨.pair TInstance .nil,(.pair TInstance .nil),[false,false,true],F_29 N,true⟩
theorem Z_29(N:Nat):SN 133 (S_29 N):=snd ⟨[((11,[]),S_21 N)],[],[],[],[]⟩ ⟨[],[],[],[]⟩ N ((q8 (Z_21 N) K_21 q10)) Tryz.func133
def S_30(N:Nat):FnSpec:=⟨.pair (.slice TInstance) .nil,(.pair (.slice TInstance) .nil),[true],F_30 N,true⟩
theorem Z_30(N:Nat):SN 75 (S_30 N):=snd ⟨[((133,[]),S_29 N)],[1000007],[],[],[]⟩ ⟨[(0,⟨[.tmp 4 tI,.drow 0 TInstance],rG 8 14,[],[]⟩)],[],[],[]⟩ N ((q8 (Z_29 N) (cb Tryz.func133) q10)) Tryz.func75
def S_31(N:Nat):FnSpec:=⟨.pair (.slice .str) .nil,(.pair (.slice .str) .nil),[true],F_31 N,true⟩
theorem Z_31(N:Nat):SN 76 (S_31 N):=snd ⟨[],[],[],[],[]⟩ ⟨[(0,⟨[.tmp 4 tI,.row 0 .str],rG 8 13,[],[]⟩)],[],[],[]⟩ N q10 Tryz.func76
def S_32(N:Nat):FnSpec:=⟨.pair TPort .nil,(.pair TPort .nil),[false,false,false],F_32 N,true⟩
theorem Z_32(N:Nat):SN 134 (S_32 N):=snd ⟨[],[],[],[],[]⟩ ⟨[],[],[],[]⟩ N q10 Tryz.func134
def S_33(N:Nat):FnSpec:=⟨.pair (.slice TPort) .nil,(.pair (.slice TPort) .nil),[true],F_33 N,true⟩
theorem Z_33(N:Nat):SN 77 (S_33 N):=snd ⟨[((134,[]),S_32 N)],[],[],[],[]⟩ ⟨[(0,⟨[.tmp 4 tI,.row 0 TPort],rG 8 14,[],[]⟩)],[],[],[]⟩ N ((q8 (Z_32 N) (cb Tryz.func134) q10)) Tryz.func77
def S_34(N:Nat):FnSpec:=⟨.pair TDesign .nil,(.pair TDesign .nil),[true,true,true],F_34 N,true⟩
theorem Z_34(N:Nat):SN 36 (S_34 N):=snd ⟨[((75,[]),S_30 N),((76,[]),S_31 N),((77,[]),S_33 N)],[],[],[],[]⟩ ⟨[],[],[],[]⟩ N ((q8 (Z_30 N) (cb Tryz.func75) (q8 (Z_31 N) (cb Tryz.func76) (q8 (Z_33 N) (cb Tryz.func77) q10)))) Tryz.func36
def S_35(N:Nat):FnSpec:=⟨.pair TWire .nil,(.pair TWire .nil),[true,true,true,true],F_35 N,true⟩
theorem Z_35(N:Nat):SN 78 (S_35 N):=snd ⟨[((11,[]),S_21 N)],[],[],[],[]⟩ ⟨[],[],[],[]⟩ N ((q8 (Z_21 N) K_21 q10)) Tryz.func78
def S_36(N:Nat):FnSpec:=⟨.pair (.slice TWire) .nil,(.pair (.slice TWire) .nil),[true],F_36 N,true⟩
theorem Z_36(N:Nat):SN 37 (S_36 N):=snd ⟨[((78,[]),S_35 N)],[1000007],[],[],[]⟩ ⟨[(0,⟨[.tmp 4 tI,.drow 0 TWire],rG 8 14,[],[]⟩)],[],[],[]⟩ N ((q8 (Z_35 N) (cb Tryz.func78) q10)) Tryz.func37
def S_37(N:Nat):FnSpec:=⟨.pair TBlock .nil,(.pair TBlock .nil),[true,true,true,true,true],F_37 N,true⟩
theorem Z_37(N:Nat):SN 9 (S_37 N):=snd ⟨[((35,[]),S_28 N),((36,[]),S_34 N),((37,[]),S_36 N)],[],[],[],[]⟩ ⟨[],[],[],[]⟩ N ((q8 (Z_28 N) (cb Tryz.func35) (q8 (Z_34 N) (cb Tryz.func36) (q8 (Z_36 N) (cb Tryz.func37) q10)))) Tryz.func9
def S_38(N:Nat):FnSpec:=⟨.pair .str .nil,(.pair .bool .nil),[false],F_38 N,false⟩
theorem K_38:CB 119:=cb Tryz.func119
theorem Z_38(N:Nat):SN 119 (S_38 N):=snd ⟨[],[],[],[],[]⟩ ⟨[(0,⟨[.tmp 3 tI],rG 4 38,[],[]⟩)],[],[],[]⟩ N q10 Tryz.func119
def S_39(N:Nat):FnSpec:=⟨.pair tI (.pair tI tN),(.pair .bool .nil),[false],F_39 N,false⟩
theorem K_39:CB 102:=cb Tryz.func102
theorem Z_39(N:Nat):SN 102 (S_39 N):=snd ⟨[],[],[],[],[]⟩ ⟨[],[],[],[]⟩ N q10 Tryz.func102
def S_40(N:Nat):FnSpec:=⟨.pair TCell .nil,(.pair tI (.pair .bool .nil)),[false,false],F_40 N,false⟩
theorem Z_40(N:Nat):SN 225 (S_40 N):=snd ⟨[((102,[]),S_39 N),((119,[]),S_38 N)],[],[],[],[]⟩ ⟨[(0,⟨[.tmp 5 tI,.tmp 6 tI],[7,8]++rG 18 67,[],[]⟩),(2,⟨[.tmp 8 tI],[],[],[]⟩)],[],[],[]⟩ N ((q8 (Z_39 N) K_39 (q8 (Z_38 N) K_38 q10))) Tryz.func225
def S_41(N:Nat):FnSpec:=⟨.pair (.slice tI) .nil,(.pair .bool .nil),[false],F_41 N,false⟩
theorem Z_41(N:Nat):SN 327 (S_41 N):=snd ⟨[((102,[]),S_39 N)],[],[],[],[]⟩ ⟨[(0,⟨[.tmp 3 tI],rG 4 28,[],[]⟩)],[],[],[]⟩ N ((q8 (Z_39 N) K_39 q10)) Tryz.func327
def S_42(N:Nat):FnSpec:=⟨.pair TTable .nil,(.pair .bool .nil),[false],F_42 N,false⟩
theorem Z_42(N:Nat):SN 314 (S_42 N):=snd ⟨[((102,[]),S_39 N),((327,[]),S_41 N)],[],[],[],[]⟩ ⟨[(0,⟨[.tmp 3 tI],rG 27 14,[],[]⟩)],[],[],[]⟩ N ((q8 (Z_39 N) K_39 (q8 (Z_41 N) (cb Tryz.func327) q10))) Tryz.func314
def S_43(N:Nat):FnSpec:=⟨.pair TTable .nil,(.pair TSpan tN),[false,false,false],F_43 N,false⟩
theorem Z_43(N:Nat):SN 296 (S_43 N):=snd ⟨[((314,[]),S_42 N)],[],[],[],[]⟩ ⟨[(0,⟨[.tmp 5 tI,.var 2 [some tI,some tI]],rG 19 25,[],[]⟩)],[],[],[]⟩ N ((q8 (Z_42 N) (cb Tryz.func314) q10)) Tryz.func296
def S_44(N:Nat):FnSpec:=⟨.pair (.slice TTable) (.pair .bool .nil),(.pair .bool .nil),[false],F_44 N,false⟩
theorem Z_44(N:Nat):SN 267 (S_44 N):=snd ⟨[((296,[]),S_43 N)],[],[],[],[]⟩ ⟨[(0,⟨[.tmp 5 tI],[6,7]++rG 11 22,[],[]⟩)],[],[],[]⟩ N ((q8 (Z_43 N) (cb Tryz.func296) q10)) Tryz.func267
def S_45(N:Nat):FnSpec:=⟨.pair TCell (.pair TArc .nil),(.pair .bool .nil),[false],F_45 N,false⟩
theorem Z_45(N:Nat):SN 226 (S_45 N):=snd ⟨[((102,[]),S_39 N),((267,[]),S_44 N)],[],[],[],[]⟩ ⟨[],[],[],[]⟩ N ((q8 (Z_39 N) K_39 (q8 (Z_44 N) (cb Tryz.func267) q10))) Tryz.func226
def S_46(N:Nat):FnSpec:=⟨.pair TCell .nil,(.pair (.slice tI) .nil),[true],F_46 N,false⟩
theorem Z_46(N:Nat):SN 227 (S_46 N):=snd ⟨[],[],[],[],[]⟩ ⟨[(0,⟨[.tmp 4 tI,.row 1 tI],rG 6 18,[],[]⟩)],[],[],[]⟩ N q10 Tryz.func227
def S_47(N:Nat):FnSpec:=⟨.pair TCell .nil,(.pair .bool .nil),[false],F_47 N,false⟩
theorem Z_47(N:Nat):SN 170 (S_47 N):=snd ⟨[((102,[]),S_39 N),((119,[]),S_38 N),((225,[]),S_40 N),((226,[]),S_45 N),((227,[]),S_46 N)],[],[],[],[]⟩ ⟨[(0,⟨[.tmp 5 tI],[6,7]++rG 41 52,[],[]⟩),(2,⟨[.tmp 7 tI],[],[],[]⟩),(5,⟨[.tmp 9 tI],rG 99 14,[],[]⟩)],[],[],[]⟩ N ((q8 (Z_39 N) K_39 (q8 (Z_38 N) K_38 (q8 (Z_40 N) (cb Tryz.func225) (q8 (Z_45 N) (cb Tryz.func226) (q8 (Z_46 N) (cb Tryz.func227) q10)))))) Tryz.func170
def S_48(N:Nat):FnSpec:=⟨.pair TLibrary .nil,(.pair .bool .nil),[false],F_48 N,false⟩
theorem Z_48(N:Nat):SN 115 (S_48 N):=snd ⟨[((170,[]),S_47 N)],[],[],[],[]⟩ ⟨[(0,⟨[.tmp 3 tI],rG 4 33,[],[]⟩),(2,⟨[.tmp 4 tI],[],[],[]⟩)],[],[],[]⟩ N ((q8 (Z_47 N) (cb Tryz.func170) q10)) Tryz.func115
def S_49(N:Nat):FnSpec:=⟨.pair TLibrary (.pair TDesign .nil),(.pair .bool .nil),[false],F_49 N,false⟩
theorem Z_49(N:Nat):SN 116 (S_49 N):=snd ⟨[((102,[]),S_39 N)],[],[],[],[]⟩ ⟨[(0,⟨[.tmp 6 tI],[7,8]++rG 13 50,[],[]⟩),(2,⟨[.tmp 8 tI],[],[],[]⟩),(4,⟨[.tmp 9 tI],rG 63 27,[],[]⟩)],[],[],[]⟩ N ((q8 (Z_39 N) K_39 q10)) Tryz.func116
def S_50(N:Nat):FnSpec:=⟨.pair (.slice .str) .nil,(.pair .bool .nil),[false],F_50 N,false⟩
theorem Z_50(N:Nat):SN 117 (S_50 N):=snd ⟨[((119,[]),S_38 N)],[],[],[],[]⟩ ⟨[(0,⟨[.tmp 3 tI],rG 4 27,[],[]⟩),(2,⟨[.tmp 4 tI],[],[],[]⟩)],[],[],[]⟩ N ((q8 (Z_38 N) K_38 q10)) Tryz.func117
def S_51(N:Nat):FnSpec:=⟨.pair TLibrary (.pair TDesign .nil),(.pair .bool .nil),[false],F_51 N,false⟩
theorem K_51:CB 66:=cb Tryz.func66
theorem Z_51(N:Nat):SN 66 (S_51 N):=snd ⟨[((115,[]),S_48 N),((116,[]),S_49 N),((117,[]),S_50 N)],[],[],[],[]⟩ ⟨[(0,⟨[.tmp 6 tI,.row 2 .str],rG 41 17,[],[]⟩),(2,⟨[.tmp 8 tI,.row 3 .str],rG 58 17,[],[]⟩),(4,⟨[.tmp 10 tI,.row 4 tI],[11]++rG 93 24,[],[]⟩),(6,⟨[.tmp 12 tI,.row 4 tI],rG 117 25,[],[]⟩),(8,⟨[.tmp 13 tI],rG 142 11,[],[]⟩)],[],[],[]⟩ N ((q8 (Z_48 N) (cb Tryz.func115) (q8 (Z_49 N) (cb Tryz.func116) (q8 (Z_50 N) (cb Tryz.func117) q10)))) Tryz.func66
def S_52(N:Nat):FnSpec:=⟨.pair TDesign .nil,(.pair (.slice Tl05Place) .nil),[true],F_52 N,false⟩
theorem K_52:CB 118:=cb Tryz.func118
theorem Z_52(N:Nat):SN 118 (S_52 N):=snd ⟨[],[],[],[],[]⟩ ⟨[(0,⟨[.tmp 4 tI,.row 1 Tl05Place],[5,6]++rG 8 35,[],[]⟩),(2,⟨[.tmp 6 tI,.row 1 Tl05Place],[],[],[]⟩),(4,⟨[.tmp 7 tI,.row 1 Tl05Place],rG 43 25,[],[]⟩)],[],[],[]⟩ N q10 Tryz.func118
def S_53(N:Nat):FnSpec:=⟨.pair TDesign tN,(.pair (.slice tI) .nil),[true],F_53 N,false⟩
theorem Z_53(N:Nat):SN 68 (S_53 N):=snd ⟨[((118,[]),S_52 N)],[],[],[],[]⟩ ⟨[(0,⟨[.tmp 7 tI,.row 1 tI],[8]++rG 11 25,[],[]⟩)],[],[],[]⟩ N ((q8 (Z_52 N) K_52 q10)) Tryz.func68
def S_54(N:Nat):FnSpec:=⟨.pair TWire tN,(.pair .bool .nil),[false],F_54 N,false⟩
theorem Z_54(N:Nat):SN 67 (S_54 N):=snd ⟨[((102,[]),S_39 N)],[],[],[],[]⟩ ⟨[(0,⟨[.tmp 6 tI],rG 38 54,[],[]⟩),(2,⟨[.tmp 7 tI],rG 92 16,[],[]⟩)],[],[],[]⟩ N ((q8 (Z_39 N) K_39 q10)) Tryz.func67
def S_55(N:Nat):FnSpec:=⟨.pair TBlock .nil,(.pair .bool .nil),[false],F_55 N,false⟩
theorem K_55:CB 32:=cb Tryz.func32
theorem Z_55(N:Nat):SN 32 (S_55 N):=snd ⟨[((66,[]),S_51 N),((67,[]),S_54 N),((68,[]),S_53 N)],[],[],[],[]⟩ ⟨[(0,⟨[.tmp 3 tI],rG 20 19,[],[]⟩)],[],[],[]⟩ N ((q8 (Z_51 N) K_51 (q8 (Z_54 N) (cb Tryz.func67) (q8 (Z_53 N) (cb Tryz.func68) q10)))) Tryz.func32
def S_56(N:Nat):FnSpec:=⟨.pair TDesign tN,tN,[false],F_56 N,false⟩
theorem Z_56(N:Nat):SN 125 (S_56 N):=snd ⟨[((118,[]),S_52 N)],[],[],[],[]⟩ ⟨[(0,⟨[.tmp 6 tI],rG 9 20,[],[]⟩)],[],[],[]⟩ N ((q8 (Z_52 N) K_52 q10)) Tryz.func125
def S_57(N:Nat):FnSpec:=⟨.pair TLibrary (.pair TDesign tN),(.pair Tl05Place (.pair .bool .nil)),[false,false,false,false,false],F_57 N,false⟩
theorem Z_57(N:Nat):SN 210 (S_57 N):=snd ⟨[((66,[]),S_51 N),((102,[]),S_39 N),((118,[]),S_52 N)],[],[],[],[]⟩ ⟨[],[],[],[]⟩ N ((q8 (Z_51 N) K_51 (q8 (Z_39 N) K_39 (q8 (Z_52 N) K_52 q10)))) Tryz.func210
def S_58(N:Nat):FnSpec:=⟨.pair TBlock tN,tN,[false],F_58 N,false⟩
theorem K_58:CB 160:=cb Tryz.func160
theorem Z_58(N:Nat):SN 160 (S_58 N):=snd ⟨[((125,[]),S_56 N),((210,[]),S_57 N)],[],[],[],[]⟩ ⟨[],[],[],[]⟩ N ((q8 (Z_56 N) (cb Tryz.func125) (q8 (Z_57 N) (cb Tryz.func210) q10))) Tryz.func160
def S_59(N:Nat):FnSpec:=⟨.pair TBlock tN,(.pair (.slice tI) .nil),[false],F_59 N,false⟩
theorem K_59:CB 161:=cb Tryz.func161
theorem Z_59(N:Nat):SN 161 (S_59 N):=snd ⟨[],[],[],[],[]⟩ ⟨[],[],[],[]⟩ N q10 Tryz.func161
def S_60(N:Nat):FnSpec:=⟨.pair TBlock .nil,(.pair (.slice tI) (.pair .bool .nil)),[true,false],F_60 N,false⟩
theorem Z_60(N:Nat):SN 209 (S_60 N):=snd ⟨[((160,[]),S_58 N),((161,[]),S_59 N)],[],[],[],[]⟩ ⟨[(0,⟨[.tmp 6 tI,.row 1 tI],rG 7 6++rG 19 47,[],[]⟩),(2,⟨[.tmp 8 tI,.tmp 7 .bool,.row 1 tI],[],[],[]⟩),(4,⟨[.tmp 10 tI,.tmp 12 tI],[],[],[]⟩)],[],[(2,tI)],[]⟩ N ((q8 (Z_58 N) K_58 (q8 (Z_59 N) K_59 q10))) Tryz.func209
def S_61(N:Nat):FnSpec:=⟨.pair TBlock .nil,(.pair .bool .nil),[false],F_61 N,false⟩
theorem Z_61(N:Nat):SN 159 (S_61 N):=snd ⟨[((32,[]),S_55 N),((209,[]),S_60 N)],[],[],[],[]⟩ ⟨[],[],[],[]⟩ N ((q8 (Z_55 N) K_55 (q8 (Z_60 N) (cb Tryz.func209) q10))) Tryz.func159
def S_62(N:Nat):FnSpec:=⟨.pair TBlock .nil,tN,[false],F_62 N,false⟩
theorem Z_62(N:Nat):SN 101 (S_62 N):=snd ⟨[((32,[]),S_55 N),((159,[]),S_61 N)],[],[],[],[]⟩ ⟨[],[],[],[]⟩ N ((q8 (Z_55 N) K_55 (q8 (Z_61 N) (cb Tryz.func159) q10))) Tryz.func101
def S_63(N:Nat):FnSpec:=⟨.pair TBlock tN,tN,[false],F_63 N,false⟩
theorem Z_63(N:Nat):SN 57 (S_63 N):=snd ⟨[((101,[]),S_62 N),((102,[]),S_39 N)],[],[],[],[]⟩ ⟨[],[],[],[]⟩ N ((q8 (Z_62 N) (cb Tryz.func101) (q8 (Z_39 N) K_39 q10))) Tryz.func57
def S_64(N M:Nat):IoSpec:=⟨(.pair TBlock (.pair tI (.pair (.slice .bool) (.pair (.slice .bool) .nil)))),[false,false,true,true],.nil,(.pair (.slice .bool) (.pair (.slice .bool) .nil)),F_64 N M⟩
noncomputable def C_64(N M:Nat):Ctx:=⟨[((160,[]),S_58 N),((161,[]),S_59 N)],[],[],[],[(103,.io (S_64 N M))]⟩
theorem K_64:CB 103:=cb Tryz.func103
noncomputable def L_64(N:Nat):MarkL:=[]
theorem Z_64(N:Nat):∀ M,IoOk Tryz.prog 103 (S_64 N M)
 | 0=>fun w args x r ys ok R _ _ _ _ h=>nomatch (show none=some (r,ys) from h)
 | M+1=>sndIO (C_64 N M) (L_64 N) ⟨[(0,⟨[.tmp 10 tI,.row 0 .bool,.row 1 .bool],rG 29 14,[],[]⟩)],[],[],[]⟩ N ((q8 (Z_58 N) K_58 (q8 (Z_59 N) K_59 q10))) (q40) ((q346 (Z_64 N M) K_64 q558)) Tryz.func103
def S_65(N:Nat):FnSpec:=⟨.pair (.slice .bool) .nil,(.pair (.slice tI) .nil),[true],F_65 N,false⟩
theorem Z_65(N:Nat):SN 104 (S_65 N):=snd ⟨[],[],[],[],[]⟩ ⟨[(0,⟨[.tmp 4 tI,.row 0 tI],rG 5 15,[],[]⟩)],[],[],[]⟩ N q10 Tryz.func104
def S_66(N:Nat):FnSpec:=⟨.pair TBlock tN,(.pair (.slice tI) .nil),[true],F_66 N,false⟩
noncomputable def L_66(N:Nat):MarkL:=[]
theorem Z_66(N:Nat):SN 58 (S_66 N):=sndX ⟨[((104,[]),S_65 N)],[],[],[],[(103,.io (S_64 N N))]⟩ (L_66 N) ⟨[],[],[],[]⟩ N ((q8 (Z_65 N) (cb Tryz.func104) q10)) (q40) ((q346 (Z_64 N N) K_64 q558)) Tryz.func58
def S_67(N:Nat):FnSpec:=⟨.pair TBlock tN,(.pair (.slice tI) tN),[true,false],F_67 N,false⟩
theorem Z_67(N:Nat):SN 25 (S_67 N):=snd ⟨[((57,[]),S_63 N),((58,[]),S_66 N)],[],[],[],[]⟩ ⟨[],[],[(4,tI)],[]⟩ N ((q8 (Z_63 N) (cb Tryz.func57) (q8 (Z_66 N) (cb Tryz.func58) q10))) Tryz.func25
def S_68(N:Nat):FnSpec:=⟨.pair tI (.pair tI tN),(.pair .bool .nil),[false],F_68 N,false⟩
theorem K_68:CB 84:=cb Tryz.func84
theorem Z_68(N:Nat):SN 84 (S_68 N):=snd ⟨[],[],[],[],[]⟩ ⟨[],[],[],[]⟩ N q10 Tryz.func84
def S_69(N:Nat):FnSpec:=⟨.pair .str .nil,(.pair .bool .nil),[false],F_69 N,false⟩
theorem K_69:CB 142:=cb Tryz.func142
theorem Z_69(N:Nat):SN 142 (S_69 N):=snd ⟨[((84,[]),S_68 N),((183,[]),q244 N),((184,[]),q128 N)],[],[],[],[]⟩ ⟨[],[],[],[]⟩ N ((q8 (Z_68 N) K_68 (q8 (q389 N) q393 (q8 (q249 N) q267 q10)))) Tryz.func142
def S_70(N:Nat):FnSpec:=⟨.pair (.slice TPin) .nil,tN,[false],F_70 N,false⟩
theorem K_70:CB 276:=cb Tryz.func276
theorem Z_70(N:Nat):SN 276 (S_70 N):=snd ⟨[],[],[],[],[]⟩ ⟨[],[],[],[]⟩ N q10 Tryz.func276
def S_71(N:Nat):FnSpec:=⟨.pair (.slice .str) (.pair .str .nil),tN,[false],F_71 N,false⟩
theorem Z_71(N:Nat):SN 185 (S_71 N):=snd ⟨[],[],[],[],[]⟩ ⟨[(0,⟨[.tmp 8 tI],[5]++rG 9 8++[18],[],[]⟩)],[],[],[]⟩ N q10 Tryz.func185
def S_72(N:Nat):FnSpec:=⟨.pair (.slice .str) (.pair .str .nil),(.pair .bool .nil),[false],F_72 N,false⟩
theorem Z_72(N:Nat):SN 144 (S_72 N):=snd ⟨[((185,[]),S_71 N)],[],[],[],[]⟩ ⟨[],[],[],[]⟩ N ((q8 (Z_71 N) (cb Tryz.func185) q10)) Tryz.func144
def S_73(N:Nat):FnSpec:=⟨.pair (.slice .str) .nil,(.pair .bool .nil),[false],F_73 N,false⟩
theorem K_73:CB 86:=cb Tryz.func86
theorem Z_73(N:Nat):SN 86 (S_73 N):=snd ⟨[((142,[]),S_69 N),((144,[]),S_72 N)],[],[],[],[]⟩ ⟨[(0,⟨[.tmp 7 tI],[3,4]++rG 8 15,[],[]⟩)],[],[],[]⟩ N ((q8 (Z_69 N) K_69 (q8 (Z_72 N) (cb Tryz.func144) q10))) Tryz.func86
def S_74(N:Nat):FnSpec:=⟨.pair (.slice TPin) .nil,(.pair .bool .nil),[false],F_74 N,false⟩
theorem Z_74(N:Nat):SN 232 (S_74 N):=snd ⟨[((84,[]),S_68 N),((86,[]),S_73 N),((276,[]),S_70 N)],[],[],[],[]⟩ ⟨[(0,⟨[.tmp 8 tI,.row 0 .str],[4,5]++rG 9 26++[44]++rG 35 9,[(3,.str),(3,.str)],[]⟩)],[],[],[]⟩ N ((q8 (Z_68 N) K_68 (q8 (Z_73 N) K_73 (q8 (Z_70 N) K_70 q10)))) Tryz.func232
def S_75(N:Nat):FnSpec:=⟨tN,(.pair .bool .nil),[false],F_75 N,false⟩
theorem Z_75(N:Nat):SN 302 (S_75 N):=snd ⟨[],[],[],[],[]⟩ ⟨[],[],[],[]⟩ N q10 Tryz.func302
def S_76(N:Nat):FnSpec:=⟨.pair (.slice tI) .nil,tN,[false],F_76 N,false⟩
theorem K_76:CB 107:=cb Tryz.func107
theorem Z_76(N:Nat):SN 107 (S_76 N):=snd ⟨[],[],[],[],[]⟩ ⟨[],[],[],[]⟩ N q10 Tryz.func107
def S_77(N:Nat):FnSpec:=⟨.pair tI (.pair (.ptr tI) (.pair (.ptr tI) .nil)),(.pair .bool .nil),[false],F_77 N,false⟩
theorem Z_77(N:Nat):SN 165 (S_77 N):=snd ⟨[((84,[]),S_68 N)],[],[],[],[]⟩ ⟨[],[],[],[]⟩ N ((q8 (Z_68 N) K_68 q10)) Tryz.func165
def S_78(N:Nat):FnSpec:=⟨.pair (.slice tI) (.pair (.clo 165 (.pair (.ptr tI) (.pair (.ptr tI) .nil))) .nil),tN,[false],F_78 N,false⟩
theorem Z_78(N:Nat):SN 211 (S_78 N):=snd ⟨[((165,[]),S_77 N)],[],[],[],[]⟩ ⟨[(0,⟨[.tmp 8 tI],[5]++rG 9 8++[18],[],[]⟩)],[],[],[]⟩ N ((q8 (Z_77 N) (cb Tryz.func165) q10)) Tryz.func211
def S_79(N:Nat):FnSpec:=⟨.pair (.slice tI) (.pair (.clo 165 (.pair (.ptr tI) (.pair (.ptr tI) .nil))) .nil),(.pair .bool .nil),[false],F_79 N,false⟩
theorem Z_79(N:Nat):SN 164 (S_79 N):=snd ⟨[((211,[165]),S_78 N)],[],[],[],[]⟩ ⟨[],[],[],[]⟩ N ((q8 (Z_78 N) (cb Tryz.func211) q10)) Tryz.func164
def S_80(N:Nat):FnSpec:=⟨.pair (.slice tI) (.pair tI tN),(.pair .bool .nil),[false],F_80 N,false⟩
theorem K_80:CB 106:=cb Tryz.func106
theorem Z_80(N:Nat):SN 106 (S_80 N):=snd ⟨[((164,[165]),S_79 N)],[],[],[],[]⟩ ⟨[],[(1,[(4,some tI),(5,some tI)])],[],[]⟩ N ((q8 (Z_79 N) (cb Tryz.func164) q10)) Tryz.func106
def S_81(N:Nat):FnSpec:=⟨.pair (.slice tI) .nil,(.pair .bool .nil),[false],F_81 N,false⟩
theorem Z_81(N:Nat):SN 194 (S_81 N):=snd ⟨[],[],[],[],[]⟩ ⟨[(0,⟨[.tmp 3 tI],rG 4 16,[],[]⟩)],[],[],[]⟩ N q10 Tryz.func194
def S_82(N:Nat):FnSpec:=⟨.pair (.slice tI) .nil,(.pair .bool .nil),[false],F_82 N,false⟩
theorem Z_82(N:Nat):SN 329 (S_82 N):=snd ⟨[((84,[]),S_68 N),((106,[]),S_80 N),((107,[]),S_76 N),((194,[]),S_81 N)],[],[],[],[]⟩ ⟨[],[],[],[]⟩ N ((q8 (Z_68 N) K_68 (q8 (Z_80 N) K_80 (q8 (Z_76 N) K_76 (q8 (Z_81 N) (cb Tryz.func194) q10))))) Tryz.func329
def S_83(N:Nat):FnSpec:=⟨.pair TTable .nil,(.pair .bool .nil),[false],F_83 N,false⟩
theorem Z_83(N:Nat):SN 319 (S_83 N):=snd ⟨[((106,[]),S_80 N),((329,[]),S_82 N)],[],[],[],[]⟩ ⟨[],[],[],[]⟩ N ((q8 (Z_80 N) K_80 (q8 (Z_82 N) (cb Tryz.func329) q10))) Tryz.func319
def S_84(N:Nat):FnSpec:=⟨.pair (.slice tI) .nil,tN,[false],F_84 N,false⟩
theorem Z_84(N:Nat):SN 320 (S_84 N):=snd ⟨[],[],[],[],[]⟩ ⟨[(0,⟨[.tmp 3 tI,.tmp 4 tI],rG 12 12,[],[]⟩)],[],[],[]⟩ N q10 Tryz.func320
def S_85(N:Nat):FnSpec:=⟨.pair TTable (.pair (.ptr .bool) .nil),(.pair .bool .nil),[false],F_85 N,false⟩
theorem Z_85(N:Nat):SN 318 (S_85 N):=snd ⟨[((319,[]),S_83 N),((320,[]),S_84 N)],[],[],[],[]⟩ ⟨[],[],[],[]⟩ N ((q8 (Z_83 N) (cb Tryz.func319) (q8 (Z_84 N) (cb Tryz.func320) q10))) Tryz.func318
def S_86(N:Nat):FnSpec:=⟨.pair (.slice TTable) (.pair (.clo 318 (.pair (.ptr .bool) .nil)) .nil),tN,[false],F_86 N,false⟩
theorem Z_86(N:Nat):SN 328 (S_86 N):=snd ⟨[((318,[]),S_85 N)],[],[],[],[]⟩ ⟨[(0,⟨[.tmp 8 tI],[5]++rG 9 8++[18],[],[]⟩)],[],[],[]⟩ N ((q8 (Z_85 N) (cb Tryz.func318) q10)) Tryz.func328
def S_87(N:Nat):FnSpec:=⟨.pair (.slice TTable) (.pair (.clo 318 (.pair (.ptr .bool) .nil)) .nil),(.pair .bool .nil),[false],F_87 N,false⟩
theorem Z_87(N:Nat):SN 317 (S_87 N):=snd ⟨[((328,[318]),S_86 N)],[],[],[],[]⟩ ⟨[],[],[],[]⟩ N ((q8 (Z_86 N) (cb Tryz.func328) q10)) Tryz.func317
def S_88(N:Nat):FnSpec:=⟨.pair (.slice TTable) (.pair .bool .nil),(.pair .bool .nil),[false],F_88 N,false⟩
theorem Z_88(N:Nat):SN 303 (S_88 N):=snd ⟨[((317,[318]),S_87 N)],[],[],[],[]⟩ ⟨[],[(1,[(3,some .bool)])],[],[]⟩ N ((q8 (Z_87 N) (cb Tryz.func317) q10)) Tryz.func303
def S_89(N:Nat):FnSpec:=⟨.pair TPin .nil,(.pair .bool .nil),[false],F_89 N,false⟩
theorem Z_89(N:Nat):SN 322 (S_89 N):=snd ⟨[],[],[],[],[]⟩ ⟨[],[],[],[]⟩ N q10 Tryz.func322
def S_90(N:Nat):FnSpec:=⟨.pair (.slice TPin) (.pair (.clo 322 .nil) .nil),tN,[false],F_90 N,false⟩
theorem Z_90(N:Nat):SN 321 (S_90 N):=snd ⟨[((322,[]),S_89 N)],[],[],[],[]⟩ ⟨[(0,⟨[.tmp 8 tI],[5]++rG 9 8++[18],[],[]⟩)],[],[],[]⟩ N ((q8 (Z_89 N) (cb Tryz.func322) q10)) Tryz.func321
def S_91(N:Nat):FnSpec:=⟨.pair TCell .nil,tN,[false],F_91 N,false⟩
theorem Z_91(N:Nat):SN 304 (S_91 N):=snd ⟨[((321,[322]),S_90 N)],[],[],[],[]⟩ ⟨[],[],[],[]⟩ N ((q8 (Z_90 N) (cb Tryz.func321) q10)) Tryz.func304
def S_92(N:Nat):FnSpec:=⟨.pair TCell .nil,tN,[false],F_92 N,false⟩
theorem K_92:CB 280:=cb Tryz.func280
theorem Z_92(N:Nat):SN 280 (S_92 N):=snd ⟨[((276,[]),S_70 N)],[],[],[],[]⟩ ⟨[],[],[],[]⟩ N ((q8 (Z_70 N) K_70 q10)) Tryz.func280
def S_93(N:Nat):FnSpec:=⟨.pair TCell tN,(.pair .bool .nil),[false],F_93 N,false⟩
theorem Z_93(N:Nat):SN 305 (S_93 N):=snd ⟨[((84,[]),S_68 N),((280,[]),S_92 N)],[],[],[],[]⟩ ⟨[],[],[],[]⟩ N ((q8 (Z_68 N) K_68 (q8 (Z_92 N) K_92 q10))) Tryz.func305
def S_94(N:Nat):FnSpec:=⟨.pair TCell (.pair TArc .nil),(.pair .bool .nil),[false],F_94 N,false⟩
theorem Z_94(N:Nat):SN 277 (S_94 N):=snd ⟨[((84,[]),S_68 N),((280,[]),S_92 N),((302,[]),S_75 N),((303,[]),S_88 N),((304,[]),S_91 N),((305,[]),S_93 N)],[],[],[],[]⟩ ⟨[],[],[],[]⟩ N ((q8 (Z_68 N) K_68 (q8 (Z_92 N) K_92 (q8 (Z_75 N) (cb Tryz.func302) (q8 (Z_88 N) (cb Tryz.func303) (q8 (Z_91 N) (cb Tryz.func304) (q8 (Z_93 N) (cb Tryz.func305) q10))))))) Tryz.func277
def S_95(N:Nat):FnSpec:=⟨.pair TArc (.pair (.ptr TArc) .nil),(.pair .bool .nil),[false],F_95 N,false⟩
theorem Z_95(N:Nat):SN 279 (S_95 N):=snd ⟨[],[],[],[],[]⟩ ⟨[],[],[],[]⟩ N q10 Tryz.func279
def S_96(N:Nat):FnSpec:=⟨.pair (.slice TArc) (.pair (.clo 279 (.pair (.ptr TArc) .nil)) .nil),tN,[false],F_96 N,false⟩
theorem Z_96(N:Nat):SN 306 (S_96 N):=snd ⟨[((279,[]),S_95 N)],[],[],[],[]⟩ ⟨[(0,⟨[.tmp 8 tI],[5]++rG 9 8++[18],[],[]⟩)],[],[],[]⟩ N ((q8 (Z_95 N) (cb Tryz.func279) q10)) Tryz.func306
def S_97(N:Nat):FnSpec:=⟨.pair (.slice TArc) (.pair (.clo 279 (.pair (.ptr TArc) .nil)) .nil),(.pair .bool .nil),[false],F_97 N,false⟩
theorem Z_97(N:Nat):SN 278 (S_97 N):=snd ⟨[((306,[279]),S_96 N)],[],[],[],[]⟩ ⟨[],[],[],[]⟩ N ((q8 (Z_96 N) (cb Tryz.func306) q10)) Tryz.func278
def S_98(N:Nat):FnSpec:=⟨.pair TCell .nil,(.pair .bool .nil),[false],F_98 N,false⟩
theorem Z_98(N:Nat):SN 233 (S_98 N):=snd ⟨[((277,[]),S_94 N),((278,[279]),S_97 N)],[],[],[],[]⟩ ⟨[(0,⟨[.tmp 8 tI],[3,4]++rG 9 17,[],[]⟩)],[(4,[(4,some TArc)])],[],[]⟩ N ((q8 (Z_94 N) (cb Tryz.func277) (q8 (Z_97 N) (cb Tryz.func278) q10))) Tryz.func233
def S_99(N:Nat):FnSpec:=⟨.pair TArc (.pair (.ptr tI) .nil),(.pair .bool .nil),[false],F_99 N,false⟩
theorem Z_99(N:Nat):SN 307 (S_99 N):=snd ⟨[],[],[],[],[]⟩ ⟨[],[],[],[]⟩ N q10 Tryz.func307
def S_100(N:Nat):FnSpec:=⟨.pair (.slice TArc) (.pair (.clo 307 (.pair (.ptr tI) .nil)) .nil),tN,[false],F_100 N,false⟩
theorem Z_100(N:Nat):SN 306 (S_100 N):=snd ⟨[((307,[]),S_99 N)],[],[],[],[]⟩ ⟨[(0,⟨[.tmp 8 tI],[5]++rG 9 8++[18],[],[]⟩)],[],[],[]⟩ N ((q8 (Z_99 N) (cb Tryz.func307) q10)) Tryz.func306
def S_101(N:Nat):FnSpec:=⟨.pair (.slice TArc) (.pair (.clo 307 (.pair (.ptr tI) .nil)) .nil),(.pair .bool .nil),[false],F_101 N,false⟩
theorem Z_101(N:Nat):SN 278 (S_101 N):=snd ⟨[((306,[307]),S_100 N)],[],[],[],[]⟩ ⟨[],[],[],[]⟩ N ((q8 (Z_100 N) (cb Tryz.func306) q10)) Tryz.func278
def S_102(N:Nat):FnSpec:=⟨.pair TCell tN,(.pair .bool .nil),[false],F_102 N,false⟩
theorem Z_102(N:Nat):SN 281 (S_102 N):=snd ⟨[((278,[307]),S_101 N)],[],[],[],[]⟩ ⟨[],[(1,[(3,some tI)])],[],[]⟩ N ((q8 (Z_101 N) (cb Tryz.func278) q10)) Tryz.func281
def S_103(N:Nat):FnSpec:=⟨.pair TCell .nil,(.pair .bool .nil),[false],F_103 N,false⟩
theorem Z_103(N:Nat):SN 234 (S_103 N):=snd ⟨[((106,[]),S_80 N),((280,[]),S_92 N),((281,[]),S_102 N)],[],[],[],[]⟩ ⟨[(0,⟨[.tmp 3 tI,.tmp 9 tI],[5]++rG 10 8,[],[]⟩)],[],[],[]⟩ N ((q8 (Z_80 N) K_80 (q8 (Z_92 N) K_92 (q8 (Z_102 N) (cb Tryz.func281) q10)))) Tryz.func234
def S_104(N:Nat):FnSpec:=⟨.pair TCell .nil,(.pair .bool .nil),[false],F_104 N,false⟩
theorem Z_104(N:Nat):SN 178 (S_104 N):=snd ⟨[((84,[]),S_68 N),((142,[]),S_69 N),((232,[]),S_74 N),((233,[]),S_98 N),((234,[]),S_103 N)],[],[],[],[]⟩ ⟨[],[],[],[]⟩ N ((q8 (Z_68 N) K_68 (q8 (Z_69 N) K_69 (q8 (Z_74 N) (cb Tryz.func232) (q8 (Z_98 N) (cb Tryz.func233) (q8 (Z_103 N) (cb Tryz.func234) q10)))))) Tryz.func178
def S_105(N:Nat):FnSpec:=⟨.pair TLibrary .nil,(.pair .bool .nil),[false],F_105 N,false⟩
theorem Z_105(N:Nat):SN 135 (S_105 N):=snd ⟨[((86,[]),S_73 N),((178,[]),S_104 N)],[],[],[],[]⟩ ⟨[(0,⟨[.tmp 9 tI,.row 1 .str],[5]++rG 10 12,[(3,.str)],[]⟩)],[],[],[]⟩ N ((q8 (Z_73 N) K_73 (q8 (Z_104 N) (cb Tryz.func178) q10))) Tryz.func135
def S_106(N:Nat):FnSpec:=⟨.pair TDesign .nil,(.pair .bool .nil),[false],F_106 N,false⟩
theorem Z_106(N:Nat):SN 136 (S_106 N):=snd ⟨[((86,[]),S_73 N)],[],[],[],[]⟩ ⟨[(0,⟨[.tmp 12 tI,.row 1 .str],[6]++rG 13 9,[(3,.str)],[]⟩),(2,⟨[.tmp 25 tI,.row 2 .str],[8]++rG 26 9,[(4,.str)],[]⟩)],[],[],[]⟩ N ((q8 (Z_73 N) K_73 q10)) Tryz.func136
def S_107(N:Nat):FnSpec:=⟨.pair (.slice TCell) .nil,tN,[false],F_107 N,false⟩
theorem Z_107(N:Nat):SN 179 (S_107 N):=snd ⟨[],[],[],[],[]⟩ ⟨[],[],[],[]⟩ N q10 Tryz.func179
def S_108(N:Nat):FnSpec:=⟨.pair (.slice .str) .nil,tN,[false],F_108 N,false⟩
theorem Z_108(N:Nat):SN 181 (S_108 N):=snd ⟨[],[],[],[],[]⟩ ⟨[],[],[],[]⟩ N q10 Tryz.func181
def S_109(N:Nat):FnSpec:=⟨.pair TDesign tN,(.pair .bool .nil),[false],F_109 N,false⟩
theorem K_109:CB 138:=cb Tryz.func138
theorem Z_109(N:Nat):SN 138 (S_109 N):=snd ⟨[((84,[]),S_68 N),((181,[]),S_108 N)],[],[],[],[]⟩ ⟨[],[],[],[]⟩ N ((q8 (Z_68 N) K_68 (q8 (Z_108 N) (cb Tryz.func181) q10))) Tryz.func138
def S_110(N:Nat):FnSpec:=⟨.pair tI (.pair (.ptr TDesign) .nil),(.pair .bool .nil),[false],F_110 N,false⟩
theorem Z_110(N:Nat):SN 180 (S_110 N):=snd ⟨[((138,[]),S_109 N)],[],[],[],[]⟩ ⟨[],[],[],[]⟩ N ((q8 (Z_109 N) K_109 q10)) Tryz.func180
def S_111(N:Nat):FnSpec:=⟨.pair (.slice tI) (.pair (.clo 180 (.pair (.ptr TDesign) .nil)) .nil),tN,[false],F_111 N,false⟩
theorem Z_111(N:Nat):SN 211 (S_111 N):=snd ⟨[((180,[]),S_110 N)],[],[],[],[]⟩ ⟨[(0,⟨[.tmp 8 tI],[5]++rG 9 8++[18],[],[]⟩)],[],[],[]⟩ N ((q8 (Z_110 N) (cb Tryz.func180) q10)) Tryz.func211
def S_112(N:Nat):FnSpec:=⟨.pair (.slice tI) (.pair (.clo 180 (.pair (.ptr TDesign) .nil)) .nil),(.pair .bool .nil),[false],F_112 N,false⟩
theorem Z_112(N:Nat):SN 164 (S_112 N):=snd ⟨[((211,[180]),S_111 N)],[],[],[],[]⟩ ⟨[],[],[],[]⟩ N ((q8 (Z_111 N) (cb Tryz.func211) q10)) Tryz.func164
def S_113(N:Nat):FnSpec:=⟨.pair TDesign (.pair TLibrary (.pair TInstance .nil)),(.pair .bool .nil),[false],F_113 N,false⟩
theorem Z_113(N:Nat):SN 137 (S_113 N):=snd ⟨[((84,[]),S_68 N),((164,[180]),S_112 N),((179,[]),S_107 N)],[],[],[],[]⟩ ⟨[],[(1,[(3,some TDesign)])],[],[]⟩ N ((q8 (Z_68 N) K_68 (q8 (Z_112 N) (cb Tryz.func164) (q8 (Z_107 N) (cb Tryz.func179) q10)))) Tryz.func137
def S_114(N:Nat):FnSpec:=⟨tN,(.pair .bool .nil),[false],F_114 N,false⟩
theorem Z_114(N:Nat):SN 140 (S_114 N):=snd ⟨[],[],[],[],[]⟩ ⟨[],[],[],[]⟩ N q10 Tryz.func140
def S_115(N:Nat):FnSpec:=⟨.pair (.slice tI) (.pair (.clo 140 .nil) .nil),tN,[false],F_115 N,false⟩
theorem Z_115(N:Nat):SN 182 (S_115 N):=snd ⟨[((140,[]),S_114 N)],[],[],[],[]⟩ ⟨[(0,⟨[.tmp 8 tI],[5]++rG 9 8++[18],[],[]⟩)],[],[],[]⟩ N ((q8 (Z_114 N) (cb Tryz.func140) q10)) Tryz.func182
def S_116(N:Nat):FnSpec:=⟨.pair (.slice tI) (.pair (.clo 140 .nil) .nil),(.pair .bool .nil),[false],F_116 N,false⟩
theorem Z_116(N:Nat):SN 139 (S_116 N):=snd ⟨[((182,[140]),S_115 N)],[],[],[],[]⟩ ⟨[],[],[],[]⟩ N ((q8 (Z_115 N) (cb Tryz.func182) q10)) Tryz.func139
def S_117(N:Nat):FnSpec:=⟨.pair TLibrary (.pair TDesign .nil),(.pair .bool .nil),[false],F_117 N,false⟩
theorem Z_117(N:Nat):SN 80 (S_117 N):=snd ⟨[((135,[]),S_105 N),((136,[]),S_106 N),((137,[]),S_113 N),((138,[]),S_109 N),((139,[140]),S_116 N)],[],[],[],[]⟩ ⟨[(0,⟨[.tmp 25 tI,.row 2 tI],[7]++rG 26 22,[],[]⟩),(2,⟨[.tmp 51 tI,.row 2 tI],[9]++rG 52 29,[],[]⟩)],[],[],[]⟩ N ((q8 (Z_105 N) (cb Tryz.func135) (q8 (Z_106 N) (cb Tryz.func136) (q8 (Z_113 N) (cb Tryz.func137) (q8 (Z_109 N) K_109 (q8 (Z_116 N) (cb Tryz.func139) q10)))))) Tryz.func80
def S_118(N:Nat):FnSpec:=⟨.pair TDesign .nil,(.pair (.slice Tl05Place) .nil),[true],F_118 N,false⟩
theorem Z_118(N:Nat):SN 81 (S_118 N):=snd ⟨[],[],[],[],[]⟩ ⟨[(0,⟨[.tmp 13 tI,.row 1 Tl05Place],[4,5,6,7]++rG 14 27,[(3,Tl05Place)],[]⟩),(2,⟨[.tmp 21 tI,.row 1 Tl05Place],[],[],[]⟩),(4,⟨[.tmp 44 tI,.row 1 Tl05Place],[8,9]++rG 45 15,[],[]⟩)],[],[],[]⟩ N q10 Tryz.func81
def S_119(N:Nat):FnSpec:=⟨.pair TWire .nil,(.pair .bool .nil),[false],F_119 N,false⟩
theorem Z_119(N:Nat):SN 141 (S_119 N):=snd ⟨[((84,[]),S_68 N)],[],[],[],[]⟩ ⟨[(0,⟨[.tmp 8 tI],[3,4]++rG 9 29,[],[]⟩)],[],[],[]⟩ N ((q8 (Z_68 N) K_68 q10)) Tryz.func141
def S_120(N:Nat):FnSpec:=⟨.pair TWire tN,(.pair .bool .nil),[false],F_120 N,false⟩
theorem Z_120(N:Nat):SN 82 (S_120 N):=snd ⟨[((84,[]),S_68 N),((106,[]),S_80 N),((107,[]),S_76 N),((141,[]),S_119 N)],[],[],[],[]⟩ ⟨[],[],[],[]⟩ N ((q8 (Z_68 N) K_68 (q8 (Z_80 N) K_80 (q8 (Z_76 N) K_76 (q8 (Z_119 N) (cb Tryz.func141) q10))))) Tryz.func82
def S_121(N:Nat):FnSpec:=⟨.pair TBlock .nil,(.pair .bool .nil),[false],F_121 N,false⟩
theorem Z_121(N:Nat):SN 40 (S_121 N):=snd ⟨[((80,[]),S_117 N),((81,[]),S_118 N),((82,[]),S_120 N)],[],[],[],[]⟩ ⟨[(0,⟨[.tmp 32 tI,.row 1 tI],[5]++rG 33 14,[],[]⟩),(2,⟨[.tmp 50 tI],[6,7]++rG 51 12,[],[]⟩)],[],[],[]⟩ N ((q8 (Z_117 N) (cb Tryz.func80) (q8 (Z_118 N) (cb Tryz.func81) (q8 (Z_120 N) (cb Tryz.func82) q10)))) Tryz.func40
def S_122(N:Nat):FnSpec:=⟨.pair TBlock tN,(.pair TCell .nil),[false,false,false,false,false,false,false],F_122 N,false⟩
theorem Z_122(N:Nat):SN 162 (S_122 N):=snd ⟨[],[],[],[],[]⟩ ⟨[],[],[],[]⟩ N q10 Tryz.func162
def S_123(N:Nat):FnSpec:=⟨.pair (.ptr Tlogic) tN,(.pair (.slice tI) .nil),[false],F_123 N,false⟩
theorem Z_123(N:Nat):SN 108 (S_123 N):=snd ⟨[],[],[],[],[]⟩ ⟨[],[],[],[]⟩ N q10 Tryz.func108
def S_124(N:Nat):FnSpec:=⟨.pair TBlock .nil,(.pair (.ptr Tlogic) (.pair .bool .nil)),[false,false],F_124 N,false⟩
theorem KI_108:CB 108:=cb Tryz.func108
noncomputable def I_125:InF:=⟨108,Tryz.f108,⟨[],[],[],[]⟩,[],false⟩
theorem KI_163:CB 163:=cb Tryz.func163
noncomputable def I_126:InF:=⟨163,Tryz.f163,⟨[],[],[],[]⟩,[],false⟩
theorem KI_164:CB 164:=cb Tryz.func164
noncomputable def I_127:InF:=⟨164,Tryz.f164,⟨[],[],[],[]⟩,[],false⟩
theorem KI_211:CB 211:=cb Tryz.func211
noncomputable def I_128:InF:=⟨211,Tryz.f211,⟨[(0,⟨[.tmp 8 tI],[5]++rG 9 8++[18],[],[]⟩)],[],[],[]⟩,[],false⟩
theorem Z_124(N:Nat):SN 105 (S_124 N):=snd ⟨[((107,[]),S_76 N),((162,[]),S_122 N)],[],[I_125,I_126,I_127,I_128],[],[]⟩ ⟨[(0,⟨[.tmp 24 tI,.row 1 tI],[5]++rG 25 9,[],[]⟩),(2,⟨[.tmp 38 tI,.row 1 tI],[6,7]++rG 39 24,[],[]⟩),(4,⟨[.var 2 [some (.slice TCell),some (.slice TInstance),some (.slice .str),some (.slice TPort),some (.slice TWire),none,none],.row 3 .bool,.row 5 tI],[10,11]++rG 70 68,[],[(2,6,tI)]⟩),(6,⟨[.tmp 91 tI,.var 2 [some (.slice TCell),some (.slice TInstance),some (.slice .str),some (.slice TPort),some (.slice TWire),none,none],.row 3 .bool,.row 5 tI],[73,84],[],[]⟩)],[],[],[]⟩ N ((q8 (Z_76 N) K_76 (q8 (Z_122 N) (cb Tryz.func162) q10))) Tryz.func105 (hi:=(q276 Tryz.func108 KI_108 (q276 Tryz.func163 KI_163 (q276 Tryz.func164 KI_164 (q276 Tryz.func211 KI_211 q711)))))
def S_129(N:Nat):FnSpec:=⟨.pair TBlock (.pair (.slice tI) .nil),(.pair (.ptr Tlogic) tN),[false,false],F_129 N,false⟩
theorem Z_129(N:Nat):SN 59 (S_129 N):=snd ⟨[((40,[]),S_121 N),((105,[]),S_124 N),((106,[]),S_80 N),((107,[]),S_76 N)],[],[],[],[]⟩ ⟨[],[],[],[]⟩ N ((q8 (Z_121 N) (cb Tryz.func40) (q8 (Z_124 N) (cb Tryz.func105) (q8 (Z_80 N) K_80 (q8 (Z_76 N) K_76 q10))))) Tryz.func59
def S_130(N:Nat):FnSpec:=⟨.pair (.ptr Tlogic) .nil,(.pair (.slice (.slice tI)) .nil),[true],F_130 N,true⟩
noncomputable def L_130(N:Nat):MarkL:=[]
theorem Z_130(N:Nat):SN 60 (S_130 N):=sndX ⟨[((108,[]),S_123 N)],[1000014],[],[],[(109,.io q134),(110,.row q114)]⟩ (L_130 N) ⟨[(0,⟨[.tmp 20 tI,.drow 0 (.slice tI)],[5]++rG 21 16++[59,6,8]++rG 37 22,[],[]⟩),(2,⟨[.tmp 41 tI,.row 1 tI],[],[(6,tI)],[]⟩)],[],[],[]⟩ N ((q8 (Z_123 N) (cb Tryz.func108) q10)) (q40) ((q346 (q254) q252 (q346 (q239) q190 q558))) Tryz.func60
def S_131(N:Nat):FnSpec:=⟨.pair TBlock tN,(.pair (.slice tI) tN),[true,false],F_131 N,false⟩
theorem Z_131(N:Nat):SN 26 (S_131 N):=snd ⟨[((59,[]),S_129 N),((60,[]),S_130 N)],[11],[],[],[]⟩ ⟨[],[],[(4,tI)],[]⟩ N ((q8 (Z_129 N) (cb Tryz.func59) (q8 (Z_130 N) (cb Tryz.func60) q10))) Tryz.func26
def S_132(N:Nat):FnSpec:=⟨.pair (.slice tI) (.pair (.slice tI) .nil),(.pair .bool .nil),[false],F_132 N,false⟩
theorem K_132:CB 17:=cb Tryz.func17
theorem Z_132(N:Nat):SN 17 (S_132 N):=snd ⟨[],[],[],[],[]⟩ ⟨[(0,⟨[.tmp 5 tI],rG 11 15,[],[]⟩)],[],[],[]⟩ N q10 Tryz.func17
def S_133(N:Nat):FnSpec:=⟨.pair TPin (.pair TPin .nil),(.pair .bool .nil),[false],F_133 N,false⟩
theorem Z_133(N:Nat):SN 258 (S_133 N):=snd ⟨[],[],[],[],[]⟩ ⟨[],[],[],[]⟩ N q10 Tryz.func258
def S_134(N:Nat):FnSpec:=⟨.pair (.slice TPin) (.pair (.slice TPin) .nil),(.pair .bool .nil),[false],F_134 N,false⟩
theorem Z_134(N:Nat):SN 206 (S_134 N):=snd ⟨[((258,[]),S_133 N)],[],[],[],[]⟩ ⟨[(0,⟨[.tmp 5 tI],rG 11 16,[],[]⟩)],[],[],[]⟩ N ((q8 (Z_133 N) (cb Tryz.func258) q10)) Tryz.func206
def S_135(N:Nat):FnSpec:=⟨.pair TTable (.pair TTable .nil),(.pair .bool .nil),[false],F_135 N,false⟩
theorem Z_135(N:Nat):SN 313 (S_135 N):=snd ⟨[((17,[]),S_132 N)],[],[],[],[]⟩ ⟨[],[],[],[]⟩ N ((q8 (Z_132 N) K_132 q10)) Tryz.func313
def S_136(N:Nat):FnSpec:=⟨.pair (.slice TTable) (.pair (.slice TTable) .nil),(.pair .bool .nil),[false],F_136 N,false⟩
theorem Z_136(N:Nat):SN 293 (S_136 N):=snd ⟨[((313,[]),S_135 N)],[],[],[],[]⟩ ⟨[(0,⟨[.tmp 5 tI],rG 11 16,[],[]⟩)],[],[],[]⟩ N ((q8 (Z_135 N) (cb Tryz.func313) q10)) Tryz.func293
def S_137(N:Nat):FnSpec:=⟨.pair TArc (.pair TArc .nil),(.pair .bool .nil),[false],F_137 N,false⟩
theorem Z_137(N:Nat):SN 259 (S_137 N):=snd ⟨[((293,[]),S_136 N)],[],[],[],[]⟩ ⟨[],[],[],[]⟩ N ((q8 (Z_136 N) (cb Tryz.func293) q10)) Tryz.func259
def S_138(N:Nat):FnSpec:=⟨.pair (.slice TArc) (.pair (.slice TArc) .nil),(.pair .bool .nil),[false],F_138 N,false⟩
theorem Z_138(N:Nat):SN 207 (S_138 N):=snd ⟨[((259,[]),S_137 N)],[],[],[],[]⟩ ⟨[(0,⟨[.tmp 5 tI],rG 11 16,[],[]⟩)],[],[],[]⟩ N ((q8 (Z_137 N) (cb Tryz.func259) q10)) Tryz.func207
def S_139(N:Nat):FnSpec:=⟨.pair TCell (.pair TCell .nil),(.pair .bool .nil),[false],F_139 N,false⟩
theorem Z_139(N:Nat):SN 154 (S_139 N):=snd ⟨[((17,[]),S_132 N),((206,[]),S_134 N),((207,[]),S_138 N)],[],[],[],[]⟩ ⟨[],[],[],[]⟩ N ((q8 (Z_132 N) K_132 (q8 (Z_134 N) (cb Tryz.func206) (q8 (Z_138 N) (cb Tryz.func207) q10)))) Tryz.func154
def S_140(N:Nat):FnSpec:=⟨.pair (.slice TCell) (.pair (.slice TCell) .nil),(.pair .bool .nil),[false],F_140 N,false⟩
theorem Z_140(N:Nat):SN 91 (S_140 N):=snd ⟨[((154,[]),S_139 N)],[],[],[],[]⟩ ⟨[(0,⟨[.tmp 5 tI],rG 11 16,[],[]⟩)],[],[],[]⟩ N ((q8 (Z_139 N) (cb Tryz.func154) q10)) Tryz.func91
def S_141(N:Nat):FnSpec:=⟨.pair TLibrary (.pair TLibrary .nil),(.pair .bool .nil),[false],F_141 N,false⟩
theorem Z_141(N:Nat):SN 44 (S_141 N):=snd ⟨[((91,[]),S_140 N)],[],[],[],[]⟩ ⟨[],[],[],[]⟩ N ((q8 (Z_140 N) (cb Tryz.func91) q10)) Tryz.func44
def S_142(N:Nat):FnSpec:=⟨.pair TInstance (.pair TInstance .nil),(.pair .bool .nil),[false],F_142 N,false⟩
theorem Z_142(N:Nat):SN 155 (S_142 N):=snd ⟨[((17,[]),S_132 N)],[],[],[],[]⟩ ⟨[],[],[],[]⟩ N ((q8 (Z_132 N) K_132 q10)) Tryz.func155
def S_143(N:Nat):FnSpec:=⟨.pair (.slice TInstance) (.pair (.slice TInstance) .nil),(.pair .bool .nil),[false],F_143 N,false⟩
theorem Z_143(N:Nat):SN 92 (S_143 N):=snd ⟨[((155,[]),S_142 N)],[],[],[],[]⟩ ⟨[(0,⟨[.tmp 5 tI],rG 11 16,[],[]⟩)],[],[],[]⟩ N ((q8 (Z_142 N) (cb Tryz.func155) q10)) Tryz.func92
def S_144(N:Nat):FnSpec:=⟨.pair (.slice .str) (.pair (.slice .str) .nil),(.pair .bool .nil),[false],F_144 N,false⟩
theorem Z_144(N:Nat):SN 93 (S_144 N):=snd ⟨[],[],[],[],[]⟩ ⟨[(0,⟨[.tmp 5 tI],rG 11 15,[],[]⟩)],[],[],[]⟩ N q10 Tryz.func93
def S_145(N:Nat):FnSpec:=⟨.pair TPort (.pair TPort .nil),(.pair .bool .nil),[false],F_145 N,false⟩
theorem Z_145(N:Nat):SN 156 (S_145 N):=snd ⟨[],[],[],[],[]⟩ ⟨[],[],[],[]⟩ N q10 Tryz.func156
def S_146(N:Nat):FnSpec:=⟨.pair (.slice TPort) (.pair (.slice TPort) .nil),(.pair .bool .nil),[false],F_146 N,false⟩
theorem Z_146(N:Nat):SN 94 (S_146 N):=snd ⟨[((156,[]),S_145 N)],[],[],[],[]⟩ ⟨[(0,⟨[.tmp 5 tI],rG 11 16,[],[]⟩)],[],[],[]⟩ N ((q8 (Z_145 N) (cb Tryz.func156) q10)) Tryz.func94
def S_147(N:Nat):FnSpec:=⟨.pair TDesign (.pair TDesign .nil),(.pair .bool .nil),[false],F_147 N,false⟩
theorem Z_147(N:Nat):SN 45 (S_147 N):=snd ⟨[((92,[]),S_143 N),((93,[]),S_144 N),((94,[]),S_146 N)],[],[],[],[]⟩ ⟨[],[],[],[]⟩ N ((q8 (Z_143 N) (cb Tryz.func92) (q8 (Z_144 N) (cb Tryz.func93) (q8 (Z_146 N) (cb Tryz.func94) q10)))) Tryz.func45
def S_148(N:Nat):FnSpec:=⟨.pair TWire (.pair TWire .nil),(.pair .bool .nil),[false],F_148 N,false⟩
theorem Z_148(N:Nat):SN 95 (S_148 N):=snd ⟨[((17,[]),S_132 N)],[],[],[],[]⟩ ⟨[],[],[],[]⟩ N ((q8 (Z_132 N) K_132 q10)) Tryz.func95
def S_149(N:Nat):FnSpec:=⟨.pair (.slice TWire) (.pair (.slice TWire) .nil),(.pair .bool .nil),[false],F_149 N,false⟩
theorem Z_149(N:Nat):SN 46 (S_149 N):=snd ⟨[((95,[]),S_148 N)],[],[],[],[]⟩ ⟨[(0,⟨[.tmp 5 tI],rG 11 16,[],[]⟩)],[],[],[]⟩ N ((q8 (Z_148 N) (cb Tryz.func95) q10)) Tryz.func46
def S_150(N:Nat):FnSpec:=⟨.pair TBlock (.pair TBlock .nil),(.pair .bool .nil),[false],F_150 N,false⟩
theorem Z_150(N:Nat):SN 15 (S_150 N):=snd ⟨[((44,[]),S_141 N),((45,[]),S_147 N),((46,[]),S_149 N)],[],[],[],[]⟩ ⟨[],[],[],[]⟩ N ((q8 (Z_141 N) (cb Tryz.func44) (q8 (Z_147 N) (cb Tryz.func45) (q8 (Z_149 N) (cb Tryz.func46) q10)))) Tryz.func15
def S_151(N:Nat):FnSpec:=⟨tN,(.pair .str .nil),[false],F_151 N,false⟩
def H_151:Hints:=⟨[(0,⟨[.tmp 0 tI,.tmp 3 .str],rG 6 12,[],[]⟩)],[],[],[]⟩
noncomputable def C_151(N:Nat):Ctx:=⟨[],[],[],[],[]⟩
theorem K_151:CB 52:=cb Tryz.func52
theorem ZT_151(N:Nat):Sound Tryz.prog (fun _=>True) 52 (S_151 N):=q326 (C:=C_151 N) (H:=H_151) (N:=N) (q363 (fun _ _ _ _=>trivial) (by kernel_rfl) q10) Tryz.func52 (by kernel_rfl) (fun x r h=>(show pevFn Tryz.prog (C_151 N) N H_151 (S_151 N) Tryz.f52 x=(S_151 N).fn x by kernel_rfl).trans h)
def M_152(N:Nat):MSpec:=⟨(.slice TPin),F_152 N⟩
theorem KM_152:CB 157:=cb Tryz.func157
theorem EM_152(N:Nat)(x:Ty.den (.slice TPin))(k:Int):mevFn Tryz.prog [] [(52,fun k=>obind (F_151 N (k,())) fun r=>some r.1)] N [(0,([1,5],[0]))] (.slice TPin) Tryz.f157 x k=F_152 N x k:=by kernel_rfl
theorem ZM_152(N:Nat):MarkOk Tryz.prog 157 (M_152 N):=q37 (N:=N) (H:=[(0,([1,5],[0]))]) q40 (q160 (q98 (ZT_151 N)) K_151 q64) Tryz.func157 (fun x k n h=>(EM_152 N x k).trans h)
def M_153(N:Nat):MSpec:=⟨(.slice tI),F_153 N⟩
theorem KM_153:CB 21:=cb Tryz.func21
theorem EM_153(N:Nat)(x:Ty.den (.slice tI))(k:Int):mevFn Tryz.prog [] [] N [(0,([1,5],[0]))] (.slice tI) Tryz.f21 x k=F_153 N x k:=by kernel_rfl
theorem ZM_153(N:Nat):MarkOk Tryz.prog 21 (M_153 N):=q37 (N:=N) (H:=[(0,([1,5],[0]))]) q40 q64 Tryz.func21 (fun x k n h=>(EM_153 N x k).trans h)
def M_154(N:Nat):MSpec:=⟨(.slice TTable),F_154 N⟩
theorem KM_154:CB 208:=cb Tryz.func208
theorem EM_154(N:Nat)(x:Ty.den (.slice TTable))(k:Int):mevFn Tryz.prog [(21,M_153 N)] [] N [(0,([1,5],[0]))] (.slice TTable) Tryz.f208 x k=F_154 N x k:=by kernel_rfl
theorem ZM_154(N:Nat):MarkOk Tryz.prog 208 (M_154 N):=q37 (N:=N) (H:=[(0,([1,5],[0]))]) (q35 (ZM_153 N) KM_153 q40) q64 Tryz.func208 (fun x k n h=>(EM_154 N x k).trans h)
def M_155(N:Nat):MSpec:=⟨(.slice TArc),F_155 N⟩
theorem KM_155:CB 158:=cb Tryz.func158
theorem EM_155(N:Nat)(x:Ty.den (.slice TArc))(k:Int):mevFn Tryz.prog [(208,M_154 N)] [] N [(0,([1,5],[0]))] (.slice TArc) Tryz.f158 x k=F_155 N x k:=by kernel_rfl
theorem ZM_155(N:Nat):MarkOk Tryz.prog 158 (M_155 N):=q37 (N:=N) (H:=[(0,([1,5],[0]))]) (q35 (ZM_154 N) KM_154 q40) q64 Tryz.func158 (fun x k n h=>(EM_155 N x k).trans h)
def M_156(N:Nat):MSpec:=⟨(.slice TCell),F_156 N⟩
theorem KM_156:CB 97:=cb Tryz.func97
theorem EM_156(N:Nat)(x:Ty.den (.slice TCell))(k:Int):mevFn Tryz.prog [(21,M_153 N),(157,M_152 N),(158,M_155 N)] [(52,fun k=>obind (F_151 N (k,())) fun r=>some r.1)] N [(0,([1,5],[0]))] (.slice TCell) Tryz.f97 x k=F_156 N x k:=by kernel_rfl
theorem ZM_156(N:Nat):MarkOk Tryz.prog 97 (M_156 N):=q37 (N:=N) (H:=[(0,([1,5],[0]))]) (q35 (ZM_153 N) KM_153 (q35 (ZM_152 N) KM_152 (q35 (ZM_155 N) KM_155 q40))) (q160 (q98 (ZT_151 N)) K_151 q64) Tryz.func97 (fun x k n h=>(EM_156 N x k).trans h)
def M_157(N:Nat):MSpec:=⟨TLibrary,F_157 N⟩
theorem KM_157:CB 49:=cb Tryz.func49
theorem EM_157(N:Nat)(x:Ty.den TLibrary)(k:Int):mevFn Tryz.prog [(97,M_156 N)] [] N [] TLibrary Tryz.f49 x k=F_157 N x k:=by kernel_rfl
theorem ZM_157(N:Nat):MarkOk Tryz.prog 49 (M_157 N):=q37 (N:=N) (H:=[]) (q35 (ZM_156 N) KM_156 q40) q64 Tryz.func49 (fun x k n h=>(EM_157 N x k).trans h)
def M_158(N:Nat):MSpec:=⟨(.slice TInstance),F_158 N⟩
theorem KM_158:CB 98:=cb Tryz.func98
theorem EM_158(N:Nat)(x:Ty.den (.slice TInstance))(k:Int):mevFn Tryz.prog [(21,M_153 N)] [(52,fun k=>obind (F_151 N (k,())) fun r=>some r.1)] N [(0,([1,5],[0]))] (.slice TInstance) Tryz.f98 x k=F_158 N x k:=by kernel_rfl
theorem ZM_158(N:Nat):MarkOk Tryz.prog 98 (M_158 N):=q37 (N:=N) (H:=[(0,([1,5],[0]))]) (q35 (ZM_153 N) KM_153 q40) (q160 (q98 (ZT_151 N)) K_151 q64) Tryz.func98 (fun x k n h=>(EM_158 N x k).trans h)
def M_159(N:Nat):MSpec:=⟨(.slice .str),F_159 N⟩
theorem KM_159:CB 99:=cb Tryz.func99
theorem EM_159(N:Nat)(x:Ty.den (.slice .str))(k:Int):mevFn Tryz.prog [] [(52,fun k=>obind (F_151 N (k,())) fun r=>some r.1)] N [(0,([1,5],[0]))] (.slice .str) Tryz.f99 x k=F_159 N x k:=by kernel_rfl
theorem ZM_159(N:Nat):MarkOk Tryz.prog 99 (M_159 N):=q37 (N:=N) (H:=[(0,([1,5],[0]))]) q40 (q160 (q98 (ZT_151 N)) K_151 q64) Tryz.func99 (fun x k n h=>(EM_159 N x k).trans h)
def M_160(N:Nat):MSpec:=⟨(.slice TPort),F_160 N⟩
theorem KM_160:CB 100:=cb Tryz.func100
theorem EM_160(N:Nat)(x:Ty.den (.slice TPort))(k:Int):mevFn Tryz.prog [] [(52,fun k=>obind (F_151 N (k,())) fun r=>some r.1)] N [(0,([1,5],[0]))] (.slice TPort) Tryz.f100 x k=F_160 N x k:=by kernel_rfl
theorem ZM_160(N:Nat):MarkOk Tryz.prog 100 (M_160 N):=q37 (N:=N) (H:=[(0,([1,5],[0]))]) q40 (q160 (q98 (ZT_151 N)) K_151 q64) Tryz.func100 (fun x k n h=>(EM_160 N x k).trans h)
def M_161(N:Nat):MSpec:=⟨TDesign,F_161 N⟩
theorem KM_161:CB 50:=cb Tryz.func50
theorem EM_161(N:Nat)(x:Ty.den TDesign)(k:Int):mevFn Tryz.prog [(98,M_158 N),(99,M_159 N),(100,M_160 N)] [] N [] TDesign Tryz.f50 x k=F_161 N x k:=by kernel_rfl
theorem ZM_161(N:Nat):MarkOk Tryz.prog 50 (M_161 N):=q37 (N:=N) (H:=[]) (q35 (ZM_158 N) KM_158 (q35 (ZM_159 N) KM_159 (q35 (ZM_160 N) KM_160 q40))) q64 Tryz.func50 (fun x k n h=>(EM_161 N x k).trans h)
def M_162(N:Nat):MSpec:=⟨(.slice TWire),F_162 N⟩
theorem KM_162:CB 51:=cb Tryz.func51
theorem EM_162(N:Nat)(x:Ty.den (.slice TWire))(k:Int):mevFn Tryz.prog [(21,M_153 N)] [] N [(0,([1,5],[0]))] (.slice TWire) Tryz.f51 x k=F_162 N x k:=by kernel_rfl
theorem ZM_162(N:Nat):MarkOk Tryz.prog 51 (M_162 N):=q37 (N:=N) (H:=[(0,([1,5],[0]))]) (q35 (ZM_153 N) KM_153 q40) q64 Tryz.func51 (fun x k n h=>(EM_162 N x k).trans h)
def M_163(N:Nat):MSpec:=⟨TBlock,F_163 N⟩
theorem KM_163:CB 19:=cb Tryz.func19
theorem EM_163(N:Nat)(x:Ty.den TBlock)(k:Int):mevFn Tryz.prog [(49,M_157 N),(50,M_161 N),(51,M_162 N)] [] N [] TBlock Tryz.f19 x k=F_163 N x k:=by kernel_rfl
theorem ZM_163(N:Nat):MarkOk Tryz.prog 19 (M_163 N):=q37 (N:=N) (H:=[]) (q35 (ZM_157 N) KM_157 (q35 (ZM_161 N) KM_161 (q35 (ZM_162 N) KM_162 q40))) q64 Tryz.func19 (fun x k n h=>(EM_163 N x k).trans h)
def S_164(N:Nat):FnSpec:=⟨.pair (.slice tI) tN,tN,[false],F_164 N,false⟩
theorem Z_164(N:Nat):SN 27 (S_164 N):=snd ⟨[],[],[],[],[]⟩ ⟨[(0,⟨[.tmp 1 tI,.tmp 5 tI],rG 6 14,[],[]⟩)],[],[],[]⟩ N q10 Tryz.func27
def S_165(N:Nat):FnSpec:=⟨.pair TBlock tN,(.pair .bool .nil),[false],F_165 N,false⟩
theorem KI_21:CB 21:=cb Tryz.func21
noncomputable def I_166:InF:=⟨21,Tryz.f21,⟨[(0,⟨[.tmp 1 tI,.tmp 5 tI,.row 13 tI],rG 6 12,[],[]⟩)],[],[],[]⟩,[],false⟩
noncomputable def L_165(N:Nat):MarkL:=[(19,M_163 N)]
theorem Z_165(N:Nat):SN 4 (S_165 N):=sndM ⟨[((5,[]),S_18 N),((9,[]),S_37 N),((15,[]),S_150 N),((17,[]),S_132 N),((25,[]),S_67 N),((26,[]),S_131 N),((27,[]),S_164 N)],[],[I_166],[],[]⟩ (L_165 N) ⟨[],[],[],[]⟩ N ((q8 (Z_18 N) (cb Tryz.func5) (q8 (Z_37 N) (cb Tryz.func9) (q8 (Z_150 N) (cb Tryz.func15) (q8 (Z_132 N) K_132 (q8 (Z_67 N) (cb Tryz.func25) (q8 (Z_131 N) (cb Tryz.func26) (q8 (Z_164 N) (cb Tryz.func27) q10)))))))) ((q35 (ZM_163 N) KM_163 q40)) Tryz.func4 (hi:=(q276 Tryz.func21 KI_21 q711))
end Go.Proofs.YtdgabcjahjmdoaaGreatDoor
