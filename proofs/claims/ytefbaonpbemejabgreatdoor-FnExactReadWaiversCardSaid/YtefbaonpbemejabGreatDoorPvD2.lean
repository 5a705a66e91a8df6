/- The functions' contracts. Printed by my dec.py. No condition of its own. -/
import Derived.Test.YtefbaonpbemejabGreatDoorPvD1
namespace Go.Proofs.YtefbaonpbemejabGreatDoor
open Go.RowKit
set_option maxRecDepth 100000
set_option linter.unusedVariables false
def S_164(N:Nat):FnSpec:=⟨.pair (.ptr Tview) (.pair (.slice TWaiver) .nil),(.pair .bool .nil),[false],F_164 N,false⟩
theorem Z_164(N:Nat):SN 34 (S_164 N):=snd ⟨[((76,[]),S_157 N),((77,[]),S_163 N)],[],[],[],[]⟩ ⟨[(0,⟨[.tmp 9 tI],[5,6]++rG 10 16,[],[],[]⟩)],[],[],[]⟩ N ((q8 (Z_157 N) K_157 (q8 (Z_163 N) (cb Tryz.func77) q10))) Tryz.func34
def S_165(N:Nat):FnSpec:=⟨.pair TBlock (.pair .str .nil),(.pair (.slice TWaiver) (.pair tI tN)),[true,false,false],F_165 N,false⟩
theorem KI_30:CB 30:=cb Tryz.func30
noncomputable def I_166:InF:=⟨30,Tryz.f30,⟨[],[],[],[]⟩,[],false⟩
theorem Z_165(N:Nat):SN 8 (S_165 N):=sndT ⟨[((28,[]),S_128 N),((29,[]),S_137 N),((31,[]),S_140 N),((32,[]),S_160 N),((33,[]),S_161 N),((34,[]),S_164 N)],[],[I_166],[],[]⟩ ⟨[(1,⟨[.var 5 [none],.row 8 TWaiver],[],[],[(5,0,TWaiver)],[]⟩)],[],[],[(1,0,TWaiver)]⟩ N ((q8 (Z_128 N) (cb Tryz.func28) (q8 (Z_137 N) (cb Tryz.func29) (q8 (Z_140 N) (cb Tryz.func31) (q8 (Z_160 N) (cb Tryz.func32) (q8 (Z_161 N) (cb Tryz.func33) (q8 (Z_164 N) (cb Tryz.func34) q10))))))) Tryz.func8 (hi:=(q653 Tryz.func30 KI_30 q782))
def S_167(N:Nat):FnSpec:=⟨.pair TWaiver (.pair TWaiver .nil),(.pair .bool .nil),[false],F_167 N,false⟩
theorem Z_167(N:Nat):SN 35 (S_167 N):=snd ⟨[],[],[],[],[]⟩ ⟨[],[],[],[]⟩ N q10 Tryz.func35
def S_168(N:Nat):FnSpec:=⟨.pair (.slice TWaiver) (.pair (.slice TWaiver) .nil),(.pair .bool .nil),[false],F_168 N,false⟩
theorem Z_168(N:Nat):SN 9 (S_168 N):=snd ⟨[((35,[]),S_167 N)],[],[],[],[]⟩ ⟨[(0,⟨[.tmp 5 tI],rG 11 16,[],[],[]⟩)],[],[],[]⟩ N ((q8 (Z_167 N) (cb Tryz.func35) q10)) Tryz.func9
def S_169(N:Nat):FnSpec:=⟨.pair TPin (.pair TPin .nil),(.pair .bool .nil),[false],F_169 N,false⟩
theorem Z_169(N:Nat):SN 219 (S_169 N):=snd ⟨[],[],[],[],[]⟩ ⟨[],[],[],[]⟩ N q10 Tryz.func219
def S_170(N:Nat):FnSpec:=⟨.pair (.slice TPin) (.pair (.slice TPin) .nil),(.pair .bool .nil),[false],F_170 N,false⟩
theorem Z_170(N:Nat):SN 178 (S_170 N):=snd ⟨[((219,[]),S_169 N)],[],[],[],[]⟩ ⟨[(0,⟨[.tmp 5 tI],rG 11 16,[],[],[]⟩)],[],[],[]⟩ N ((q8 (Z_169 N) (cb Tryz.func219) q10)) Tryz.func178
def S_171(N:Nat):FnSpec:=⟨.pair (.slice tI) (.pair (.slice tI) .nil),(.pair .bool .nil),[false],F_171 N,false⟩
theorem K_171:CB 141:=cb Tryz.func141
theorem Z_171(N:Nat):SN 141 (S_171 N):=snd ⟨[],[],[],[],[]⟩ ⟨[(0,⟨[.tmp 5 tI],rG 11 15,[],[],[]⟩)],[],[],[]⟩ N q10 Tryz.func141
def S_172(N:Nat):FnSpec:=⟨.pair TTable (.pair TTable .nil),(.pair .bool .nil),[false],F_172 N,false⟩
theorem Z_172(N:Nat):SN 272 (S_172 N):=snd ⟨[((141,[]),S_171 N)],[],[],[],[]⟩ ⟨[],[],[],[]⟩ N ((q8 (Z_171 N) K_171 q10)) Tryz.func272
def S_173(N:Nat):FnSpec:=⟨.pair (.slice TTable) (.pair (.slice TTable) .nil),(.pair .bool .nil),[false],F_173 N,false⟩
theorem Z_173(N:Nat):SN 252 (S_173 N):=snd ⟨[((272,[]),S_172 N)],[],[],[],[]⟩ ⟨[(0,⟨[.tmp 5 tI],rG 11 16,[],[],[]⟩)],[],[],[]⟩ N ((q8 (Z_172 N) (cb Tryz.func272) q10)) Tryz.func252
def S_174(N:Nat):FnSpec:=⟨.pair TArc (.pair TArc .nil),(.pair .bool .nil),[false],F_174 N,false⟩
theorem Z_174(N:Nat):SN 220 (S_174 N):=snd ⟨[((252,[]),S_173 N)],[],[],[],[]⟩ ⟨[],[],[],[]⟩ N ((q8 (Z_173 N) (cb Tryz.func252) q10)) Tryz.func220
def S_175(N:Nat):FnSpec:=⟨.pair (.slice TArc) (.pair (.slice TArc) .nil),(.pair .bool .nil),[false],F_175 N,false⟩
theorem Z_175(N:Nat):SN 179 (S_175 N):=snd ⟨[((220,[]),S_174 N)],[],[],[],[]⟩ ⟨[(0,⟨[.tmp 5 tI],rG 11 16,[],[],[]⟩)],[],[],[]⟩ N ((q8 (Z_174 N) (cb Tryz.func220) q10)) Tryz.func179
def S_176(N:Nat):FnSpec:=⟨.pair TCell (.pair TCell .nil),(.pair .bool .nil),[false],F_176 N,false⟩
theorem Z_176(N:Nat):SN 138 (S_176 N):=snd ⟨[((141,[]),S_171 N),((178,[]),S_170 N),((179,[]),S_175 N)],[],[],[],[]⟩ ⟨[],[],[],[]⟩ N ((q8 (Z_171 N) K_171 (q8 (Z_170 N) (cb Tryz.func178) (q8 (Z_175 N) (cb Tryz.func179) q10)))) Tryz.func138
def S_177(N:Nat):FnSpec:=⟨.pair (.slice TCell) (.pair (.slice TCell) .nil),(.pair .bool .nil),[false],F_177 N,false⟩
theorem Z_177(N:Nat):SN 78 (S_177 N):=snd ⟨[((138,[]),S_176 N)],[],[],[],[]⟩ ⟨[(0,⟨[.tmp 5 tI],rG 11 16,[],[],[]⟩)],[],[],[]⟩ N ((q8 (Z_176 N) (cb Tryz.func138) q10)) Tryz.func78
def S_178(N:Nat):FnSpec:=⟨.pair TLibrary (.pair TLibrary .nil),(.pair .bool .nil),[false],F_178 N,false⟩
theorem Z_178(N:Nat):SN 36 (S_178 N):=snd ⟨[((78,[]),S_177 N)],[],[],[],[]⟩ ⟨[],[],[],[]⟩ N ((q8 (Z_177 N) (cb Tryz.func78) q10)) Tryz.func36
def S_179(N:Nat):FnSpec:=⟨.pair TInstance (.pair TInstance .nil),(.pair .bool .nil),[false],F_179 N,false⟩
theorem Z_179(N:Nat):SN 139 (S_179 N):=snd ⟨[((141,[]),S_171 N)],[],[],[],[]⟩ ⟨[],[],[],[]⟩ N ((q8 (Z_171 N) K_171 q10)) Tryz.func139
def S_180(N:Nat):FnSpec:=⟨.pair (.slice TInstance) (.pair (.slice TInstance) .nil),(.pair .bool .nil),[false],F_180 N,false⟩
theorem Z_180(N:Nat):SN 79 (S_180 N):=snd ⟨[((139,[]),S_179 N)],[],[],[],[]⟩ ⟨[(0,⟨[.tmp 5 tI],rG 11 16,[],[],[]⟩)],[],[],[]⟩ N ((q8 (Z_179 N) (cb Tryz.func139) q10)) Tryz.func79
def S_181(N:Nat):FnSpec:=⟨.pair (.slice .str) (.pair (.slice .str) .nil),(.pair .bool .nil),[false],F_181 N,false⟩
theorem Z_181(N:Nat):SN 80 (S_181 N):=snd ⟨[],[],[],[],[]⟩ ⟨[(0,⟨[.tmp 5 tI],rG 11 15,[],[],[]⟩)],[],[],[]⟩ N q10 Tryz.func80
def S_182(N:Nat):FnSpec:=⟨.pair TPort (.pair TPort .nil),(.pair .bool .nil),[false],F_182 N,false⟩
theorem Z_182(N:Nat):SN 140 (S_182 N):=snd ⟨[],[],[],[],[]⟩ ⟨[],[],[],[]⟩ N q10 Tryz.func140
def S_183(N:Nat):FnSpec:=⟨.pair (.slice TPort) (.pair (.slice TPort) .nil),(.pair .bool .nil),[false],F_183 N,false⟩
theorem Z_183(N:Nat):SN 81 (S_183 N):=snd ⟨[((140,[]),S_182 N)],[],[],[],[]⟩ ⟨[(0,⟨[.tmp 5 tI],rG 11 16,[],[],[]⟩)],[],[],[]⟩ N ((q8 (Z_182 N) (cb Tryz.func140) q10)) Tryz.func81
def S_184(N:Nat):FnSpec:=⟨.pair TDesign (.pair TDesign .nil),(.pair .bool .nil),[false],F_184 N,false⟩
theorem Z_184(N:Nat):SN 37 (S_184 N):=snd ⟨[((79,[]),S_180 N),((80,[]),S_181 N),((81,[]),S_183 N)],[],[],[],[]⟩ ⟨[],[],[],[]⟩ N ((q8 (Z_180 N) (cb Tryz.func79) (q8 (Z_181 N) (cb Tryz.func80) (q8 (Z_183 N) (cb Tryz.func81) q10)))) Tryz.func37
def S_185(N:Nat):FnSpec:=⟨.pair TWire (.pair TWire .nil),(.pair .bool .nil),[false],F_185 N,false⟩
theorem Z_185(N:Nat):SN 82 (S_185 N):=snd ⟨[((141,[]),S_171 N)],[],[],[],[]⟩ ⟨[],[],[],[]⟩ N ((q8 (Z_171 N) K_171 q10)) Tryz.func82
def S_186(N:Nat):FnSpec:=⟨.pair (.slice TWire) (.pair (.slice TWire) .nil),(.pair .bool .nil),[false],F_186 N,false⟩
theorem Z_186(N:Nat):SN 38 (S_186 N):=snd ⟨[((82,[]),S_185 N)],[],[],[],[]⟩ ⟨[(0,⟨[.tmp 5 tI],rG 11 16,[],[],[]⟩)],[],[],[]⟩ N ((q8 (Z_185 N) (cb Tryz.func82) q10)) Tryz.func38
def S_187(N:Nat):FnSpec:=⟨.pair TBlock (.pair TBlock .nil),(.pair .bool .nil),[false],F_187 N,false⟩
theorem Z_187(N:Nat):SN 10 (S_187 N):=snd ⟨[((36,[]),S_178 N),((37,[]),S_184 N),((38,[]),S_186 N)],[],[],[],[]⟩ ⟨[],[],[],[]⟩ N ((q8 (Z_178 N) (cb Tryz.func36) (q8 (Z_184 N) (cb Tryz.func37) (q8 (Z_186 N) (cb Tryz.func38) q10)))) Tryz.func10
def S_188(N:Nat):FnSpec:=⟨tN,(.pair .str .nil),[false],F_188 N,false⟩
def H_188:Hints:=⟨[(0,⟨[.tmp 0 tI,.tmp 3 .str],rG 6 12,[],[],[]⟩)],[],[],[]⟩
noncomputable def C_188(N:Nat):Ctx:=⟨[],[],[],[],[]⟩
theorem K_188:CB 42:=cb Tryz.func42
theorem Z_188(N:Nat):SN 42 (S_188 N):=snd (C_188 N) H_188 N q10 Tryz.func42
theorem ZT_188(N:Nat):Sound Tryz.prog (fun _=>True) 42 (S_188 N):=q362 (C:=C_188 N) (H:=H_188) (N:=N) (q404 (fun _ _ _ _=>trivial) (by kernel_rfl) q10) Tryz.func42 (by kernel_rfl) (fun x r h=>(show pevFn Tryz.prog (C_188 N) N H_188 (S_188 N) Tryz.f42 x=(S_188 N).fn x by kernel_rfl).trans h)
def M_189(N:Nat):MSpec:=⟨(.slice TPin),F_189 N⟩
theorem KM_189:CB 142:=cb Tryz.func142
theorem EM_189(N:Nat)(x:Ty.den (.slice TPin))(k:Int):mevFn Tryz.prog [] [(42,fun k=>obind (F_188 N (k,())) fun r=>some r.1)] N [(0,([1,5],[0]))] (.slice TPin) Tryz.f142 x k=F_189 N x k:=by kernel_rfl
theorem ZM_189(N:Nat):MarkOk Tryz.prog 142 (M_189 N):=q44 (N:=N) (H:=[(0,([1,5],[0]))]) q59 (q180 (q110 (ZT_188 N)) K_188 q72) Tryz.func142 (fun x k n h=>(EM_189 N x k).trans h)
def M_190(N:Nat):MSpec:=⟨(.slice tI),F_190 N⟩
theorem KM_190:CB 87:=cb Tryz.func87
theorem EM_190(N:Nat)(x:Ty.den (.slice tI))(k:Int):mevFn Tryz.prog [] [] N [(0,([1,5],[0]))] (.slice tI) Tryz.f87 x k=F_190 N x k:=by kernel_rfl
theorem ZM_190(N:Nat):MarkOk Tryz.prog 87 (M_190 N):=q44 (N:=N) (H:=[(0,([1,5],[0]))]) q59 q72 Tryz.func87 (fun x k n h=>(EM_190 N x k).trans h)
def M_191(N:Nat):MSpec:=⟨(.slice TTable),F_191 N⟩
theorem KM_191:CB 180:=cb Tryz.func180
theorem EM_191(N:Nat)(x:Ty.den (.slice TTable))(k:Int):mevFn Tryz.prog [(87,M_190 N)] [] N [(0,([1,5],[0]))] (.slice TTable) Tryz.f180 x k=F_191 N x k:=by kernel_rfl
theorem ZM_191(N:Nat):MarkOk Tryz.prog 180 (M_191 N):=q44 (N:=N) (H:=[(0,([1,5],[0]))]) (q42 (ZM_190 N) KM_190 q59) q72 Tryz.func180 (fun x k n h=>(EM_191 N x k).trans h)
def M_192(N:Nat):MSpec:=⟨(.slice TArc),F_192 N⟩
theorem KM_192:CB 143:=cb Tryz.func143
theorem EM_192(N:Nat)(x:Ty.den (.slice TArc))(k:Int):mevFn Tryz.prog [(180,M_191 N)] [] N [(0,([1,5],[0]))] (.slice TArc) Tryz.f143 x k=F_192 N x k:=by kernel_rfl
theorem ZM_192(N:Nat):MarkOk Tryz.prog 143 (M_192 N):=q44 (N:=N) (H:=[(0,([1,5],[0]))]) (q42 (ZM_191 N) KM_191 q59) q72 Tryz.func143 (fun x k n h=>(EM_192 N x k).trans h)
def M_193(N:Nat):MSpec:=⟨(.slice TCell),F_193 N⟩
theorem KM_193:CB 83:=cb Tryz.func83
theorem EM_193(N:Nat)(x:Ty.den (.slice TCell))(k:Int):mevFn Tryz.prog [(87,M_190 N),(142,M_189 N),(143,M_192 N)] [(42,fun k=>obind (F_188 N (k,())) fun r=>some r.1)] N [(0,([1,5],[0]))] (.slice TCell) Tryz.f83 x k=F_193 N x k:=by kernel_rfl
theorem ZM_193(N:Nat):MarkOk Tryz.prog 83 (M_193 N):=q44 (N:=N) (H:=[(0,([1,5],[0]))]) (q42 (ZM_190 N) KM_190 (q42 (ZM_189 N) KM_189 (q42 (ZM_192 N) KM_192 q59))) (q180 (q110 (ZT_188 N)) K_188 q72) Tryz.func83 (fun x k n h=>(EM_193 N x k).trans h)
def M_194(N:Nat):MSpec:=⟨TLibrary,F_194 N⟩
theorem KM_194:CB 39:=cb Tryz.func39
theorem EM_194(N:Nat)(x:Ty.den TLibrary)(k:Int):mevFn Tryz.prog [(83,M_193 N)] [] N [] TLibrary Tryz.f39 x k=F_194 N x k:=by kernel_rfl
theorem ZM_194(N:Nat):MarkOk Tryz.prog 39 (M_194 N):=q44 (N:=N) (H:=[]) (q42 (ZM_193 N) KM_193 q59) q72 Tryz.func39 (fun x k n h=>(EM_194 N x k).trans h)
def M_195(N:Nat):MSpec:=⟨(.slice TInstance),F_195 N⟩
theorem KM_195:CB 84:=cb Tryz.func84
theorem EM_195(N:Nat)(x:Ty.den (.slice TInstance))(k:Int):mevFn Tryz.prog [(87,M_190 N)] [(42,fun k=>obind (F_188 N (k,())) fun r=>some r.1)] N [(0,([1,5],[0]))] (.slice TInstance) Tryz.f84 x k=F_195 N x k:=by kernel_rfl
theorem ZM_195(N:Nat):MarkOk Tryz.prog 84 (M_195 N):=q44 (N:=N) (H:=[(0,([1,5],[0]))]) (q42 (ZM_190 N) KM_190 q59) (q180 (q110 (ZT_188 N)) K_188 q72) Tryz.func84 (fun x k n h=>(EM_195 N x k).trans h)
def M_196(N:Nat):MSpec:=⟨(.slice .str),F_196 N⟩
theorem KM_196:CB 85:=cb Tryz.func85
theorem EM_196(N:Nat)(x:Ty.den (.slice .str))(k:Int):mevFn Tryz.prog [] [(42,fun k=>obind (F_188 N (k,())) fun r=>some r.1)] N [(0,([1,5],[0]))] (.slice .str) Tryz.f85 x k=F_196 N x k:=by kernel_rfl
theorem ZM_196(N:Nat):MarkOk Tryz.prog 85 (M_196 N):=q44 (N:=N) (H:=[(0,([1,5],[0]))]) q59 (q180 (q110 (ZT_188 N)) K_188 q72) Tryz.func85 (fun x k n h=>(EM_196 N x k).trans h)
def M_197(N:Nat):MSpec:=⟨(.slice TPort),F_197 N⟩
theorem KM_197:CB 86:=cb Tryz.func86
theorem EM_197(N:Nat)(x:Ty.den (.slice TPort))(k:Int):mevFn Tryz.prog [] [(42,fun k=>obind (F_188 N (k,())) fun r=>some r.1)] N [(0,([1,5],[0]))] (.slice TPort) Tryz.f86 x k=F_197 N x k:=by kernel_rfl
theorem ZM_197(N:Nat):MarkOk Tryz.prog 86 (M_197 N):=q44 (N:=N) (H:=[(0,([1,5],[0]))]) q59 (q180 (q110 (ZT_188 N)) K_188 q72) Tryz.func86 (fun x k n h=>(EM_197 N x k).trans h)
def M_198(N:Nat):MSpec:=⟨TDesign,F_198 N⟩
theorem KM_198:CB 40:=cb Tryz.func40
theorem EM_198(N:Nat)(x:Ty.den TDesign)(k:Int):mevFn Tryz.prog [(84,M_195 N),(85,M_196 N),(86,M_197 N)] [] N [] TDesign Tryz.f40 x k=F_198 N x k:=by kernel_rfl
theorem ZM_198(N:Nat):MarkOk Tryz.prog 40 (M_198 N):=q44 (N:=N) (H:=[]) (q42 (ZM_195 N) KM_195 (q42 (ZM_196 N) KM_196 (q42 (ZM_197 N) KM_197 q59))) q72 Tryz.func40 (fun x k n h=>(EM_198 N x k).trans h)
def M_199(N:Nat):MSpec:=⟨(.slice TWire),F_199 N⟩
theorem KM_199:CB 41:=cb Tryz.func41
theorem EM_199(N:Nat)(x:Ty.den (.slice TWire))(k:Int):mevFn Tryz.prog [(87,M_190 N)] [] N [(0,([1,5],[0]))] (.slice TWire) Tryz.f41 x k=F_199 N x k:=by kernel_rfl
theorem ZM_199(N:Nat):MarkOk Tryz.prog 41 (M_199 N):=q44 (N:=N) (H:=[(0,([1,5],[0]))]) (q42 (ZM_190 N) KM_190 q59) q72 Tryz.func41 (fun x k n h=>(EM_199 N x k).trans h)
def M_200(N:Nat):MSpec:=⟨TBlock,F_200 N⟩
theorem KM_200:CB 11:=cb Tryz.func11
theorem EM_200(N:Nat)(x:Ty.den TBlock)(k:Int):mevFn Tryz.prog [(39,M_194 N),(40,M_198 N),(41,M_199 N)] [] N [] TBlock Tryz.f11 x k=F_200 N x k:=by kernel_rfl
theorem ZM_200(N:Nat):MarkOk Tryz.prog 11 (M_200 N):=q44 (N:=N) (H:=[]) (q42 (ZM_194 N) KM_194 (q42 (ZM_198 N) KM_198 (q42 (ZM_199 N) KM_199 q59))) q72 Tryz.func11 (fun x k n h=>(EM_200 N x k).trans h)
def S_201(N:Nat):FnSpec:=⟨.pair (.slice TWaiver) tN,tN,[false],F_201 N,false⟩
theorem Z_201(N:Nat):SN 13 (S_201 N):=snd ⟨[((42,[]),S_188 N)],[],[],[],[]⟩ ⟨[(0,⟨[.tmp 1 tI,.tmp 5 tI],rG 6 52,[],[],[]⟩)],[],[],[]⟩ N ((q8 (Z_188 N) K_188 q10)) Tryz.func13
def S_202(N:Nat):FnSpec:=⟨.pair TBlock (.pair .str .nil),(.pair .bool .nil),[false],F_202 N,false⟩
theorem KI_12:CB 12:=cb Tryz.func12
noncomputable def I_203:InF:=⟨12,Tryz.f12,⟨[(0,⟨[.tmp 1 tI,.tmp 5 tI,.row 13 TWaiver],rG 6 42,[],[],[]⟩)],[],[],[]⟩,[],false⟩
noncomputable def L_202(N:Nat):MarkL:=[(11,M_200 N)]
theorem Z_202(N:Nat):SN 3 (S_202 N):=sndM ⟨[((5,[]),S_18 N),((6,[]),S_74 N),((7,[]),S_37 N),((8,[]),S_165 N),((9,[]),S_168 N),((10,[]),S_187 N),((13,[]),S_201 N),((42,[]),S_188 N)],[],[I_203],[],[]⟩ (L_202 N) ⟨[],[],[],[]⟩ N ((q8 (Z_18 N) (cb Tryz.func5) (q8 (Z_74 N) (cb Tryz.func6) (q8 (Z_37 N) (cb Tryz.func7) (q8 (Z_165 N) (cb Tryz.func8) (q8 (Z_168 N) (cb Tryz.func9) (q8 (Z_187 N) (cb Tryz.func10) (q8 (Z_201 N) (cb Tryz.func13) (q8 (Z_188 N) K_188 q10))))))))) ((q42 (ZM_200 N) KM_200 q59)) Tryz.func3 (hi:=(q653 Tryz.func12 KI_12 q782))
end Go.Proofs.YtefbaonpbemejabGreatDoor
