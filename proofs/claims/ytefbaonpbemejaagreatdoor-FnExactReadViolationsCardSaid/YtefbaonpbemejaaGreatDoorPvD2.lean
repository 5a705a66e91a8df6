/- The functions' contracts. Printed by my dec.py. No condition of its own. -/
import Derived.Test.YtefbaonpbemejaaGreatDoorPvD1
namespace Go.Proofs.YtefbaonpbemejaaGreatDoor
open Go.RowKit
set_option maxRecDepth 100000
set_option linter.unusedVariables false
def S_175(N:Nat):FnSpec:=⟨.pair TCell (.pair TCell .nil),(.pair .bool .nil),[false],F_175 N,false⟩
theorem Z_175(N:Nat):SN 160 (S_175 N):=snd ⟨[((163,[]),S_170 N),((206,[]),S_169 N),((207,[]),S_174 N)],[],[],[],[]⟩ ⟨[],[],[],[]⟩ N ((q8 (Z_170 N) K_170 (q8 (Z_169 N) (cb Tryz.func206) (q8 (Z_174 N) (cb Tryz.func207) q10)))) Tryz.func160
def S_176(N:Nat):FnSpec:=⟨.pair (.slice TCell) (.pair (.slice TCell) .nil),(.pair .bool .nil),[false],F_176 N,false⟩
theorem Z_176(N:Nat):SN 99 (S_176 N):=snd ⟨[((160,[]),S_175 N)],[],[],[],[]⟩ ⟨[(0,⟨[.tmp 5 tI],rG 11 16,[],[],[]⟩)],[],[],[]⟩ N ((q8 (Z_175 N) (cb Tryz.func160) q10)) Tryz.func99
def S_177(N:Nat):FnSpec:=⟨.pair TLibrary (.pair TLibrary .nil),(.pair .bool .nil),[false],F_177 N,false⟩
theorem Z_177(N:Nat):SN 45 (S_177 N):=snd ⟨[((99,[]),S_176 N)],[],[],[],[]⟩ ⟨[],[],[],[]⟩ N ((q8 (Z_176 N) (cb Tryz.func99) q10)) Tryz.func45
def S_178(N:Nat):FnSpec:=⟨.pair TInstance (.pair TInstance .nil),(.pair .bool .nil),[false],F_178 N,false⟩
theorem Z_178(N:Nat):SN 161 (S_178 N):=snd ⟨[((163,[]),S_170 N)],[],[],[],[]⟩ ⟨[],[],[],[]⟩ N ((q8 (Z_170 N) K_170 q10)) Tryz.func161
def S_179(N:Nat):FnSpec:=⟨.pair (.slice TInstance) (.pair (.slice TInstance) .nil),(.pair .bool .nil),[false],F_179 N,false⟩
theorem Z_179(N:Nat):SN 100 (S_179 N):=snd ⟨[((161,[]),S_178 N)],[],[],[],[]⟩ ⟨[(0,⟨[.tmp 5 tI],rG 11 16,[],[],[]⟩)],[],[],[]⟩ N ((q8 (Z_178 N) (cb Tryz.func161) q10)) Tryz.func100
def S_180(N:Nat):FnSpec:=⟨.pair (.slice .str) (.pair (.slice .str) .nil),(.pair .bool .nil),[false],F_180 N,false⟩
theorem Z_180(N:Nat):SN 101 (S_180 N):=snd ⟨[],[],[],[],[]⟩ ⟨[(0,⟨[.tmp 5 tI],rG 11 15,[],[],[]⟩)],[],[],[]⟩ N q10 Tryz.func101
def S_181(N:Nat):FnSpec:=⟨.pair TPort (.pair TPort .nil),(.pair .bool .nil),[false],F_181 N,false⟩
theorem Z_181(N:Nat):SN 162 (S_181 N):=snd ⟨[],[],[],[],[]⟩ ⟨[],[],[],[]⟩ N q10 Tryz.func162
def S_182(N:Nat):FnSpec:=⟨.pair (.slice TPort) (.pair (.slice TPort) .nil),(.pair .bool .nil),[false],F_182 N,false⟩
theorem Z_182(N:Nat):SN 102 (S_182 N):=snd ⟨[((162,[]),S_181 N)],[],[],[],[]⟩ ⟨[(0,⟨[.tmp 5 tI],rG 11 16,[],[],[]⟩)],[],[],[]⟩ N ((q8 (Z_181 N) (cb Tryz.func162) q10)) Tryz.func102
def S_183(N:Nat):FnSpec:=⟨.pair TDesign (.pair TDesign .nil),(.pair .bool .nil),[false],F_183 N,false⟩
theorem Z_183(N:Nat):SN 46 (S_183 N):=snd ⟨[((100,[]),S_179 N),((101,[]),S_180 N),((102,[]),S_182 N)],[],[],[],[]⟩ ⟨[],[],[],[]⟩ N ((q8 (Z_179 N) (cb Tryz.func100) (q8 (Z_180 N) (cb Tryz.func101) (q8 (Z_182 N) (cb Tryz.func102) q10)))) Tryz.func46
def S_184(N:Nat):FnSpec:=⟨.pair TWire (.pair TWire .nil),(.pair .bool .nil),[false],F_184 N,false⟩
theorem Z_184(N:Nat):SN 103 (S_184 N):=snd ⟨[((163,[]),S_170 N)],[],[],[],[]⟩ ⟨[],[],[],[]⟩ N ((q8 (Z_170 N) K_170 q10)) Tryz.func103
def S_185(N:Nat):FnSpec:=⟨.pair (.slice TWire) (.pair (.slice TWire) .nil),(.pair .bool .nil),[false],F_185 N,false⟩
theorem Z_185(N:Nat):SN 47 (S_185 N):=snd ⟨[((103,[]),S_184 N)],[],[],[],[]⟩ ⟨[(0,⟨[.tmp 5 tI],rG 11 16,[],[],[]⟩)],[],[],[]⟩ N ((q8 (Z_184 N) (cb Tryz.func103) q10)) Tryz.func47
def S_186(N:Nat):FnSpec:=⟨.pair TBlock (.pair TBlock .nil),(.pair .bool .nil),[false],F_186 N,false⟩
theorem Z_186(N:Nat):SN 10 (S_186 N):=snd ⟨[((45,[]),S_177 N),((46,[]),S_183 N),((47,[]),S_185 N)],[],[],[],[]⟩ ⟨[],[],[],[]⟩ N ((q8 (Z_177 N) (cb Tryz.func45) (q8 (Z_183 N) (cb Tryz.func46) (q8 (Z_185 N) (cb Tryz.func47) q10)))) Tryz.func10
def S_187(N:Nat):FnSpec:=⟨tN,(.pair .str .nil),[false],F_187 N,false⟩
def H_187:Hints:=⟨[(0,⟨[.tmp 0 tI,.tmp 3 .str],rG 6 12,[],[],[]⟩)],[],[],[]⟩
noncomputable def C_187(N:Nat):Ctx:=⟨[],[],[],[],[]⟩
theorem K_187:CB 164:=cb Tryz.func164
theorem ZT_187(N:Nat):Sound Tryz.prog (fun _=>True) 164 (S_187 N):=q360 (C:=C_187 N) (H:=H_187) (N:=N) (q408 (fun _ _ _ _=>trivial) (by kernel_rfl) q10) Tryz.func164 (by kernel_rfl) (fun x r h=>(show pevFn Tryz.prog (C_187 N) N H_187 (S_187 N) Tryz.f164 x=(S_187 N).fn x by kernel_rfl).trans h)
def M_188(N:Nat):MSpec:=⟨(.slice TPin),F_188 N⟩
theorem KM_188:CB 165:=cb Tryz.func165
theorem EM_188(N:Nat)(x:Ty.den (.slice TPin))(k:Int):mevFn Tryz.prog [] [(164,fun k=>obind (F_187 N (k,())) fun r=>some r.1)] N [(0,([1,5],[0]))] (.slice TPin) Tryz.f165 x k=F_188 N x k:=by kernel_rfl
theorem ZM_188(N:Nat):MarkOk Tryz.prog 165 (M_188 N):=q44 (N:=N) (H:=[(0,([1,5],[0]))]) q60 (q174 (q102 (ZT_187 N)) K_187 q71) Tryz.func165 (fun x k n h=>(EM_188 N x k).trans h)
def M_189(N:Nat):MSpec:=⟨(.slice tI),F_189 N⟩
theorem KM_189:CB 108:=cb Tryz.func108
theorem EM_189(N:Nat)(x:Ty.den (.slice tI))(k:Int):mevFn Tryz.prog [] [] N [(0,([1,5],[0]))] (.slice tI) Tryz.f108 x k=F_189 N x k:=by kernel_rfl
theorem ZM_189(N:Nat):MarkOk Tryz.prog 108 (M_189 N):=q44 (N:=N) (H:=[(0,([1,5],[0]))]) q60 q71 Tryz.func108 (fun x k n h=>(EM_189 N x k).trans h)
def M_190(N:Nat):MSpec:=⟨(.slice TTable),F_190 N⟩
theorem KM_190:CB 208:=cb Tryz.func208
theorem EM_190(N:Nat)(x:Ty.den (.slice TTable))(k:Int):mevFn Tryz.prog [(108,M_189 N)] [] N [(0,([1,5],[0]))] (.slice TTable) Tryz.f208 x k=F_190 N x k:=by kernel_rfl
theorem ZM_190(N:Nat):MarkOk Tryz.prog 208 (M_190 N):=q44 (N:=N) (H:=[(0,([1,5],[0]))]) (q38 (ZM_189 N) KM_189 q60) q71 Tryz.func208 (fun x k n h=>(EM_190 N x k).trans h)
def M_191(N:Nat):MSpec:=⟨(.slice TArc),F_191 N⟩
theorem KM_191:CB 166:=cb Tryz.func166
theorem EM_191(N:Nat)(x:Ty.den (.slice TArc))(k:Int):mevFn Tryz.prog [(208,M_190 N)] [] N [(0,([1,5],[0]))] (.slice TArc) Tryz.f166 x k=F_191 N x k:=by kernel_rfl
theorem ZM_191(N:Nat):MarkOk Tryz.prog 166 (M_191 N):=q44 (N:=N) (H:=[(0,([1,5],[0]))]) (q38 (ZM_190 N) KM_190 q60) q71 Tryz.func166 (fun x k n h=>(EM_191 N x k).trans h)
def M_192(N:Nat):MSpec:=⟨(.slice TCell),F_192 N⟩
theorem KM_192:CB 104:=cb Tryz.func104
theorem EM_192(N:Nat)(x:Ty.den (.slice TCell))(k:Int):mevFn Tryz.prog [(108,M_189 N),(165,M_188 N),(166,M_191 N)] [(164,fun k=>obind (F_187 N (k,())) fun r=>some r.1)] N [(0,([1,5],[0]))] (.slice TCell) Tryz.f104 x k=F_192 N x k:=by kernel_rfl
theorem ZM_192(N:Nat):MarkOk Tryz.prog 104 (M_192 N):=q44 (N:=N) (H:=[(0,([1,5],[0]))]) (q38 (ZM_189 N) KM_189 (q38 (ZM_188 N) KM_188 (q38 (ZM_191 N) KM_191 q60))) (q174 (q102 (ZT_187 N)) K_187 q71) Tryz.func104 (fun x k n h=>(EM_192 N x k).trans h)
def M_193(N:Nat):MSpec:=⟨TLibrary,F_193 N⟩
theorem KM_193:CB 48:=cb Tryz.func48
theorem EM_193(N:Nat)(x:Ty.den TLibrary)(k:Int):mevFn Tryz.prog [(104,M_192 N)] [] N [] TLibrary Tryz.f48 x k=F_193 N x k:=by kernel_rfl
theorem ZM_193(N:Nat):MarkOk Tryz.prog 48 (M_193 N):=q44 (N:=N) (H:=[]) (q38 (ZM_192 N) KM_192 q60) q71 Tryz.func48 (fun x k n h=>(EM_193 N x k).trans h)
def M_194(N:Nat):MSpec:=⟨(.slice TInstance),F_194 N⟩
theorem KM_194:CB 105:=cb Tryz.func105
theorem EM_194(N:Nat)(x:Ty.den (.slice TInstance))(k:Int):mevFn Tryz.prog [(108,M_189 N)] [(164,fun k=>obind (F_187 N (k,())) fun r=>some r.1)] N [(0,([1,5],[0]))] (.slice TInstance) Tryz.f105 x k=F_194 N x k:=by kernel_rfl
theorem ZM_194(N:Nat):MarkOk Tryz.prog 105 (M_194 N):=q44 (N:=N) (H:=[(0,([1,5],[0]))]) (q38 (ZM_189 N) KM_189 q60) (q174 (q102 (ZT_187 N)) K_187 q71) Tryz.func105 (fun x k n h=>(EM_194 N x k).trans h)
def M_195(N:Nat):MSpec:=⟨(.slice .str),F_195 N⟩
theorem KM_195:CB 106:=cb Tryz.func106
theorem EM_195(N:Nat)(x:Ty.den (.slice .str))(k:Int):mevFn Tryz.prog [] [(164,fun k=>obind (F_187 N (k,())) fun r=>some r.1)] N [(0,([1,5],[0]))] (.slice .str) Tryz.f106 x k=F_195 N x k:=by kernel_rfl
theorem ZM_195(N:Nat):MarkOk Tryz.prog 106 (M_195 N):=q44 (N:=N) (H:=[(0,([1,5],[0]))]) q60 (q174 (q102 (ZT_187 N)) K_187 q71) Tryz.func106 (fun x k n h=>(EM_195 N x k).trans h)
def M_196(N:Nat):MSpec:=⟨(.slice TPort),F_196 N⟩
theorem KM_196:CB 107:=cb Tryz.func107
theorem EM_196(N:Nat)(x:Ty.den (.slice TPort))(k:Int):mevFn Tryz.prog [] [(164,fun k=>obind (F_187 N (k,())) fun r=>some r.1)] N [(0,([1,5],[0]))] (.slice TPort) Tryz.f107 x k=F_196 N x k:=by kernel_rfl
theorem ZM_196(N:Nat):MarkOk Tryz.prog 107 (M_196 N):=q44 (N:=N) (H:=[(0,([1,5],[0]))]) q60 (q174 (q102 (ZT_187 N)) K_187 q71) Tryz.func107 (fun x k n h=>(EM_196 N x k).trans h)
def M_197(N:Nat):MSpec:=⟨TDesign,F_197 N⟩
theorem KM_197:CB 49:=cb Tryz.func49
theorem EM_197(N:Nat)(x:Ty.den TDesign)(k:Int):mevFn Tryz.prog [(105,M_194 N),(106,M_195 N),(107,M_196 N)] [] N [] TDesign Tryz.f49 x k=F_197 N x k:=by kernel_rfl
theorem ZM_197(N:Nat):MarkOk Tryz.prog 49 (M_197 N):=q44 (N:=N) (H:=[]) (q38 (ZM_194 N) KM_194 (q38 (ZM_195 N) KM_195 (q38 (ZM_196 N) KM_196 q60))) q71 Tryz.func49 (fun x k n h=>(EM_197 N x k).trans h)
def M_198(N:Nat):MSpec:=⟨(.slice TWire),F_198 N⟩
theorem KM_198:CB 50:=cb Tryz.func50
theorem EM_198(N:Nat)(x:Ty.den (.slice TWire))(k:Int):mevFn Tryz.prog [(108,M_189 N)] [] N [(0,([1,5],[0]))] (.slice TWire) Tryz.f50 x k=F_198 N x k:=by kernel_rfl
theorem ZM_198(N:Nat):MarkOk Tryz.prog 50 (M_198 N):=q44 (N:=N) (H:=[(0,([1,5],[0]))]) (q38 (ZM_189 N) KM_189 q60) q71 Tryz.func50 (fun x k n h=>(EM_198 N x k).trans h)
def M_199(N:Nat):MSpec:=⟨TBlock,F_199 N⟩
theorem KM_199:CB 11:=cb Tryz.func11
theorem EM_199(N:Nat)(x:Ty.den TBlock)(k:Int):mevFn Tryz.prog [(48,M_193 N),(49,M_197 N),(50,M_198 N)] [] N [] TBlock Tryz.f11 x k=F_199 N x k:=by kernel_rfl
theorem ZM_199(N:Nat):MarkOk Tryz.prog 11 (M_199 N):=q44 (N:=N) (H:=[]) (q38 (ZM_193 N) KM_193 (q38 (ZM_197 N) KM_197 (q38 (ZM_198 N) KM_198 q60))) q71 Tryz.func11 (fun x k n h=>(EM_199 N x k).trans h)
def S_200(N:Nat):FnSpec:=⟨.pair (.slice TViolation) tN,tN,[false],F_200 N,false⟩
theorem Z_200(N:Nat):SN 13 (S_200 N):=snd ⟨[],[],[],[],[]⟩ ⟨[(0,⟨[.tmp 1 tI,.tmp 5 tI],rG 6 33,[],[],[]⟩)],[],[],[]⟩ N q10 Tryz.func13
def S_201(N:Nat):FnSpec:=⟨.pair TBlock (.pair .str .nil),(.pair .bool .nil),[false],F_201 N,false⟩
theorem KI_12:CB 12:=cb Tryz.func12
noncomputable def I_202:InF:=⟨12,Tryz.f12,⟨[(0,⟨[.tmp 1 tI,.tmp 5 tI,.row 13 TViolation],rG 6 27,[],[],[]⟩)],[],[],[]⟩,[],false⟩
noncomputable def L_201(N:Nat):MarkL:=[(11,M_199 N)]
theorem Z_201(N:Nat):SN 3 (S_201 N):=sndM ⟨[((5,[]),S_18 N),((6,[]),S_75 N),((7,[]),S_37 N),((8,[]),S_164 N),((9,[]),S_167 N),((10,[]),S_186 N),((13,[]),S_200 N)],[],[I_202],[],[]⟩ (L_201 N) ⟨[],[],[],[]⟩ N ((q8 (Z_18 N) (cb Tryz.func5) (q8 (Z_75 N) (cb Tryz.func6) (q8 (Z_37 N) (cb Tryz.func7) (q8 (Z_164 N) (cb Tryz.func8) (q8 (Z_167 N) (cb Tryz.func9) (q8 (Z_186 N) (cb Tryz.func10) (q8 (Z_200 N) (cb Tryz.func13) q10)))))))) ((q38 (ZM_199 N) KM_199 q60)) Tryz.func3 (hi:=(q667 Tryz.func12 KI_12 q796))
end Go.Proofs.YtefbaonpbemejaaGreatDoor
