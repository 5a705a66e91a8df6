/- The functions' contracts. Printed by my dec.py. No condition of its own. -/
import Derived.Test.YtdgabcjahjmdoaaGreatDoorPvD1
namespace Go.Proofs.YtdgabcjahjmdoaaGreatDoor
open Go.RowKit
set_option maxRecDepth 100000
set_option linter.unusedVariables false
def S_167(N:Nat):FnSpec:=⟨.pair TBlock tN,(.pair (.slice tI) .nil),[true],F_167 N,false⟩
theorem K_167:CB 187:=cb Tryz.func187
theorem Z_167(N:Nat):SN 187 (S_167 N):=snd ⟨[((81,[]),S_154 N),((244,[]),S_164 N),((245,[]),S_165 N),((246,[]),S_166 N)],[],[],[],[]⟩ ⟨[(0,⟨[.tmp 27 tI,.row 2 tI],[8,9]++rG 28 24,[],[]⟩),(2,⟨[.tmp 10 tI,.row 2 tI],rG 55 18,[],[]⟩)],[],[],[]⟩ N ((q7 (Z_154 N) K_154 (q7 (Z_164 N) (cb Tryz.func244) (q7 (Z_165 N) (cb Tryz.func245) (q7 (Z_166 N) (cb Tryz.func246) q9))))) Tryz.func187
def S_168(N:Nat):FnSpec:=⟨.pair TBlock tN,(.pair (.slice tI) .nil),[true],F_168 N,false⟩
theorem Z_168(N:Nat):SN 247 (S_168 N):=snd ⟨[((187,[]),S_167 N)],[],[],[],[]⟩ ⟨[(0,⟨[.tmp 8 tI,.row 3 tI],rG 20 28,[],[]⟩)],[],[],[]⟩ N ((q7 (Z_167 N) K_167 q9)) Tryz.func247
def S_169(N:Nat):FnSpec:=⟨.pair TBlock tN,(.pair (.slice tI) .nil),[true],F_169 N,false⟩
theorem Z_169(N:Nat):SN 188 (S_169 N):=snd ⟨[((247,[]),S_168 N)],[],[],[],[]⟩ ⟨[(0,⟨[.tmp 19 tI,.row 2 tI],[8]++rG 20 11,[(6,tI)],[]⟩)],[],[],[]⟩ N ((q7 (Z_168 N) (cb Tryz.func247) q9)) Tryz.func188
def S_170(N:Nat):FnSpec:=⟨.pair TBlock .nil,(.pair (.ptr Tview) .nil),[false],F_170 N,false⟩
theorem Z_170(N:Nat):SN 145 (S_170 N):=snd ⟨[((81,[]),S_154 N),((107,[]),S_112 N),((186,[]),S_163 N),((187,[]),S_167 N),((188,[]),S_169 N)],[54,112],[],[],[]⟩ ⟨[(0,⟨[.tmp 4 tI,.tmp 25 tI,.var 2 [some (.slice TCell),some (.slice TInstance),some (.slice .str),some (.slice TPort),some (.slice TWire),none,none,none,none,none],.row 3 TLink],[6]++rG 26 21,[],[(2,6,TLink)]⟩),(2,⟨[.tmp 60 tI,.row 4 tI,.tree 5 tI],[9,10]++rG 61 11++[84]++rG 72 12,[],[]⟩),(4,⟨[.tmp 88 tI,.var 2 [some (.slice TCell),some (.slice TInstance),some (.slice .str),some (.slice TPort),some (.slice TWire),none,none,none,none,none],.row 3 TLink,.row 6 tI,.row 7 (.slice tI)],[11,12,13,14]++rG 89 66,[],[(2,7,tI),(2,8,(.slice tI))]⟩),(6,⟨[.tmp 122 tI,.var 2 [some (.slice TCell),some (.slice TInstance),some (.slice .str),some (.slice TPort),some (.slice TWire),none,none,none,none,none],.row 3 TLink],[],[],[]⟩),(8,⟨[.tmp 127 tI,.var 2 [some (.slice TCell),some (.slice TInstance),some (.slice .str),some (.slice TPort),some (.slice TWire),none,none,none,none,none],.row 3 TLink],[],[],[]⟩)],[(1000004,[(8,none)])],[],[]⟩ N ((q7 (Z_154 N) K_154 (q7 (Z_112 N) K_112 (q7 (Z_163 N) (cb Tryz.func186) (q7 (Z_167 N) K_167 (q7 (Z_169 N) (cb Tryz.func188) q9)))))) Tryz.func145
def S_171(N:Nat):FnSpec:=⟨.pair (.slice Tl05Place) .nil,tN,[false],F_171 N,false⟩
theorem Z_171(N:Nat):SN 248 (S_171 N):=snd ⟨[],[],[],[],[]⟩ ⟨[],[],[],[]⟩ N q9 Tryz.func248
def S_172(N:Nat):FnSpec:=⟨.pair (.ptr Tview) .nil,tN,[false],F_172 N,false⟩
theorem K_172:CB 189:=cb Tryz.func189
theorem Z_172(N:Nat):SN 189 (S_172 N):=snd ⟨[((248,[]),S_171 N)],[],[],[],[]⟩ ⟨[],[],[],[]⟩ N ((q7 (Z_171 N) (cb Tryz.func248) q9)) Tryz.func189
def S_173(N:Nat):FnSpec:=⟨.pair (.slice .bool) .nil,tN,[false],F_173 N,false⟩
theorem Z_173(N:Nat):SN 190 (S_173 N):=snd ⟨[],[],[],[],[]⟩ ⟨[],[],[],[]⟩ N q9 Tryz.func190
def S_174(N:Nat):FnSpec:=⟨.pair (.slice TSpan) .nil,tN,[false],F_174 N,false⟩
theorem Z_174(N:Nat):SN 191 (S_174 N):=snd ⟨[],[],[],[],[]⟩ ⟨[],[],[],[]⟩ N q9 Tryz.func191
def S_175(N:Nat):FnSpec:=⟨tN,(.pair .bool .nil),[false],F_175 N,false⟩
theorem Z_175(N:Nat):SN 205 (S_175 N):=snd ⟨[((84,[]),S_104 N)],[],[],[],[]⟩ ⟨[],[],[],[]⟩ N ((q7 (Z_104 N) K_104 q9)) Tryz.func205
def S_176(N:Nat):FnSpec:=⟨.pair TSpan .nil,(.pair .bool .nil),[false],F_176 N,false⟩
theorem K_176:CB 153:=cb Tryz.func153
theorem Z_176(N:Nat):SN 153 (S_176 N):=snd ⟨[((205,[]),S_175 N)],[],[],[],[]⟩ ⟨[],[],[],[]⟩ N ((q7 (Z_175 N) (cb Tryz.func205) q9)) Tryz.func153
def S_177(N:Nat):FnSpec:=⟨tN,(.pair .bool .nil),[false],F_177 N,false⟩
theorem Z_177(N:Nat):SN 249 (S_177 N):=snd ⟨[((84,[]),S_104 N)],[],[],[],[]⟩ ⟨[],[],[],[]⟩ N ((q7 (Z_104 N) K_104 q9)) Tryz.func249
def S_178(N:Nat):FnSpec:=⟨.pair TSpan .nil,(.pair .bool .nil),[false],F_178 N,false⟩
theorem K_178:CB 192:=cb Tryz.func192
theorem Z_178(N:Nat):SN 192 (S_178 N):=snd ⟨[((153,[]),S_176 N),((249,[]),S_177 N)],[],[],[],[]⟩ ⟨[],[],[],[]⟩ N ((q7 (Z_176 N) K_176 (q7 (Z_177 N) (cb Tryz.func249) q9))) Tryz.func192
def S_179(N:Nat):FnSpec:=⟨.pair (.ptr Tview) (.pair TTiming .nil),(.pair .bool .nil),[false],F_179 N,false⟩
theorem Z_179(N:Nat):SN 146 (S_179 N):=snd ⟨[((153,[]),S_176 N),((189,[]),S_172 N),((190,[]),S_173 N),((191,[]),S_174 N),((192,[]),S_178 N)],[],[],[],[]⟩ ⟨[(0,⟨[.tmp 32 tI],[6,7]++rG 33 43,[],[]⟩)],[],[],[]⟩ N ((q7 (Z_176 N) K_176 (q7 (Z_172 N) K_172 (q7 (Z_173 N) (cb Tryz.func190) (q7 (Z_174 N) (cb Tryz.func191) (q7 (Z_178 N) K_178 q9)))))) Tryz.func146
def S_180(N:Nat):FnSpec:=⟨.pair (.slice TLink) .nil,tN,[false],F_180 N,false⟩
theorem Z_180(N:Nat):SN 193 (S_180 N):=snd ⟨[],[],[],[],[]⟩ ⟨[],[],[],[]⟩ N q9 Tryz.func193
def S_181(N:Nat):FnSpec:=⟨.pair (.ptr Tview) (.pair (.slice tI) .nil),(.pair .bool .nil),[false],F_181 N,false⟩
theorem Z_181(N:Nat):SN 147 (S_181 N):=snd ⟨[((106,[]),S_116 N),((193,[]),S_180 N),((194,[]),S_117 N)],[],[],[],[]⟩ ⟨[],[],[],[]⟩ N ((q7 (Z_116 N) K_116 (q7 (Z_180 N) (cb Tryz.func193) (q7 (Z_117 N) K_117 q9)))) Tryz.func147
def S_182(N:Nat):FnSpec:=⟨.pair (.ptr Tview) tN,(.pair .bool .nil),[false],F_182 N,false⟩
theorem Z_182(N:Nat):SN 195 (S_182 N):=snd ⟨[((84,[]),S_104 N),((189,[]),S_172 N)],[],[],[],[]⟩ ⟨[],[],[],[]⟩ N ((q7 (Z_104 N) K_104 (q7 (Z_172 N) K_172 q9))) Tryz.func195
def S_183(N:Nat):FnSpec:=⟨.pair (.ptr Tview) (.pair (.slice TSource) .nil),(.pair .bool .nil),[false],F_183 N,false⟩
theorem Z_183(N:Nat):SN 148 (S_183 N):=snd ⟨[((153,[]),S_176 N),((192,[]),S_178 N),((195,[]),S_182 N)],[],[],[],[]⟩ ⟨[(0,⟨[.tmp 9 tI],[5,6]++rG 10 37,[],[]⟩)],[],[],[]⟩ N ((q7 (Z_176 N) K_176 (q7 (Z_178 N) K_178 (q7 (Z_182 N) (cb Tryz.func195) q9)))) Tryz.func148
def S_184(N:Nat):FnSpec:=⟨.pair (.ptr Tview) (.pair (.slice tI) .nil),(.pair (.ptr Tgraph) .nil),[false],F_184 N,false⟩
theorem Z_184(N:Nat):SN 149 (S_184 N):=snd ⟨[],[],[],[],[]⟩ ⟨[(0,⟨[.tmp 23 tI,.row 0 .bool],[6]++rG 24 9,[],[]⟩),(2,⟨[.tmp 35 tI,.row 0 .bool],[8]++rG 36 10,[],[]⟩)],[],[],[]⟩ N q9 Tryz.func149
def S_185(N:Nat):FnSpec:=⟨.pair TLink .nil,(.pair .bool .nil),[false],F_185 N,false⟩
theorem Z_185(N:Nat):SN 197 (S_185 N):=snd ⟨[],[],[],[],[]⟩ ⟨[],[],[],[]⟩ N q9 Tryz.func197
def S_186(N:Nat):FnSpec:=⟨.pair (.ptr Tgraph) (.pair (.clo 197 .nil) .nil),(.pair (.slice tI) .nil),[true],F_186 N,false⟩
theorem Z_186(N:Nat):SN 196 (S_186 N):=snd ⟨[((197,[]),S_185 N)],[],[],[],[]⟩ ⟨[(0,⟨[.tmp 16 tI,.row 0 tI],[6,7]++rG 17 21,[(5,tI)],[]⟩)],[],[],[]⟩ N ((q7 (Z_185 N) (cb Tryz.func197) q9)) Tryz.func196
def S_187(N:Nat):FnSpec:=⟨.pair (.slice tI) tN,tN,[false],F_187 N,false⟩
theorem Z_187(N:Nat):SN 198 (S_187 N):=snd ⟨[],[],[],[],[]⟩ ⟨[(0,⟨[.tmp 8 tI],[5]++rG 9 8++[18],[],[]⟩)],[],[],[]⟩ N q9 Tryz.func198
def S_188(N:Nat):FnSpec:=⟨.pair TLink (.pair (.ptr tI) .nil),(.pair .bool .nil),[false],F_188 N,false⟩
theorem Z_188(N:Nat):SN 250 (S_188 N):=snd ⟨[],[],[],[],[]⟩ ⟨[],[],[],[]⟩ N q9 Tryz.func250
def S_189(N:Nat):FnSpec:=⟨.pair (.ptr Tgraph) (.pair (.clo 250 (.pair (.ptr tI) .nil)) .nil),(.pair (.slice tI) .nil),[true],F_189 N,false⟩
theorem Z_189(N:Nat):SN 196 (S_189 N):=snd ⟨[((250,[]),S_188 N)],[],[],[],[]⟩ ⟨[(0,⟨[.tmp 16 tI,.row 0 tI],[6,7]++rG 17 21,[(5,tI)],[]⟩)],[],[],[]⟩ N ((q7 (Z_188 N) (cb Tryz.func250) q9)) Tryz.func196
def S_190(N:Nat):FnSpec:=⟨.pair (.ptr Tgraph) tN,(.pair (.slice tI) .nil),[true],F_190 N,false⟩
theorem Z_190(N:Nat):SN 199 (S_190 N):=snd ⟨[((196,[250]),S_189 N)],[],[],[],[]⟩ ⟨[],[(1,[(3,some tI)])],[],[]⟩ N ((q7 (Z_189 N) (cb Tryz.func196) q9)) Tryz.func199
def S_191(N:Nat):FnSpec:=⟨.pair (.ptr Tgraph) .nil,(.pair (.slice tI) (.pair .bool .nil)),[true,false],F_191 N,false⟩
theorem Z_191(N:Nat):SN 150 (S_191 N):=snd ⟨[((189,[]),S_172 N),((196,[197]),S_186 N),((198,[]),S_187 N),((199,[]),S_190 N)],[],[],[],[]⟩ ⟨[(0,⟨[.tmp 20 tI,.row 0 tI],[6]++rG 21 20,[],[]⟩),(2,⟨[.tmp 43 tI,.row 0 tI,.row 2 tI],[8,10]++rG 44 38,[(7,tI)],[]⟩),(4,⟨[.tmp 60 tI,.row 0 tI],[],[],[]⟩)],[],[(2,tI)],[]⟩ N ((q7 (Z_172 N) K_172 (q7 (Z_186 N) (cb Tryz.func196) (q7 (Z_187 N) (cb Tryz.func198) (q7 (Z_190 N) (cb Tryz.func199) q9))))) Tryz.func150
def S_192(N:Nat):FnSpec:=⟨.pair TBlock (.pair TCorner (.pair (.slice tI) (.pair (.slice TSource) (.pair (.ptr TTiming) .nil)))),(.pair (.ptr Tgraph) (.pair (.slice tI) tN)),[false,true,false],F_192 N,false⟩
theorem Z_192(N:Nat):SN 87 (S_192 N):=snd ⟨[((40,[]),S_157 N),((83,[]),S_159 N),((145,[]),S_170 N),((146,[]),S_179 N),((147,[]),S_181 N),((148,[]),S_183 N),((149,[]),S_184 N),((150,[]),S_191 N)],[],[],[],[]⟩ ⟨[],[],[(11,tI)],[]⟩ N ((q7 (Z_157 N) K_157 (q7 (Z_159 N) K_159 (q7 (Z_170 N) (cb Tryz.func145) (q7 (Z_179 N) (cb Tryz.func146) (q7 (Z_181 N) (cb Tryz.func147) (q7 (Z_183 N) (cb Tryz.func148) (q7 (Z_184 N) (cb Tryz.func149) (q7 (Z_191 N) (cb Tryz.func150) q9))))))))) Tryz.func87
def S_193(N:Nat):FnSpec:=⟨.pair (.ptr Tview) .nil,(.pair TTiming .nil),[true,true,true],F_193 N,false⟩
theorem Z_193(N:Nat):SN 151 (S_193 N):=snd ⟨[((189,[]),S_172 N)],[],[],[],[]⟩ ⟨[],[],[],[]⟩ N ((q7 (Z_172 N) K_172 q9)) Tryz.func151
def S_194(N:Nat):FnSpec:=⟨.pair TSource (.pair (.ptr tI) .nil),(.pair .bool .nil),[false],F_194 N,false⟩
theorem Z_194(N:Nat):SN 252 (S_194 N):=snd ⟨[],[],[],[],[]⟩ ⟨[],[],[],[]⟩ N q9 Tryz.func252
def S_195(N:Nat):FnSpec:=⟨.pair (.slice TSource) (.pair (.clo 252 (.pair (.ptr tI) .nil)) .nil),tN,[false],F_195 N,false⟩
theorem Z_195(N:Nat):SN 251 (S_195 N):=snd ⟨[((252,[]),S_194 N)],[],[],[],[]⟩ ⟨[(0,⟨[.tmp 8 tI],[5]++rG 9 8++[18],[],[]⟩)],[],[],[]⟩ N ((q7 (Z_194 N) (cb Tryz.func252) q9)) Tryz.func251
def S_196(N:Nat):FnSpec:=⟨.pair (.slice TSource) tN,(.pair TSource (.pair .bool .nil)),[false,false,false,false,false,false],F_196 N,false⟩
theorem Z_196(N:Nat):SN 200 (S_196 N):=snd ⟨[((251,[252]),S_195 N)],[],[],[],[]⟩ ⟨[],[(1,[(3,some tI)])],[],[]⟩ N ((q7 (Z_195 N) (cb Tryz.func251) q9)) Tryz.func200
def S_197(N:Nat):FnSpec:=⟨.pair TLink (.pair (.ptr tI) .nil),(.pair .bool .nil),[false],F_197 N,false⟩
theorem Z_197(N:Nat):SN 254 (S_197 N):=snd ⟨[],[],[],[],[]⟩ ⟨[],[],[],[]⟩ N q9 Tryz.func254
def S_198(N:Nat):FnSpec:=⟨.pair (.ptr Tgraph) (.pair (.clo 254 (.pair (.ptr tI) .nil)) .nil),(.pair (.slice tI) .nil),[true],F_198 N,false⟩
theorem Z_198(N:Nat):SN 196 (S_198 N):=snd ⟨[((254,[]),S_197 N)],[],[],[],[]⟩ ⟨[(0,⟨[.tmp 16 tI,.row 0 tI],[6,7]++rG 17 21,[(5,tI)],[]⟩)],[],[],[]⟩ N ((q7 (Z_197 N) (cb Tryz.func254) q9)) Tryz.func196
def S_199(N:Nat):FnSpec:=⟨.pair (.ptr Tgraph) tN,(.pair (.slice tI) .nil),[true],F_199 N,false⟩
theorem Z_199(N:Nat):SN 202 (S_199 N):=snd ⟨[((196,[254]),S_198 N)],[],[],[],[]⟩ ⟨[],[(1,[(3,some tI)])],[],[]⟩ N ((q7 (Z_198 N) (cb Tryz.func196) q9)) Tryz.func202
def S_200(N:Nat):FnSpec:=⟨.pair (.ptr Tview) (.pair TLink .nil),tN,[false],F_200 N,false⟩
theorem K_200:CB 256:=cb Tryz.func256
theorem Z_200(N:Nat):SN 256 (S_200 N):=snd ⟨[],[],[],[],[]⟩ ⟨[],[],[],[]⟩ N q9 Tryz.func256
def S_201(N:Nat):FnSpec:=⟨.pair (.ptr Tview) (.pair TLink .nil),(.pair TArc .nil),[false,false,false,false,false,false],F_201 N,false⟩
theorem K_201:CB 287:=cb Tryz.func287
theorem Z_201(N:Nat):SN 287 (S_201 N):=snd ⟨[],[],[],[],[]⟩ ⟨[],[],[],[]⟩ N q9 Tryz.func287
def S_202(N:Nat):FnSpec:=⟨tN,(.pair .bool .nil),[false],F_202 N,false⟩
theorem Z_202(N:Nat):SN 265 (S_202 N):=snd ⟨[],[],[],[],[]⟩ ⟨[],[],[],[]⟩ N q9 Tryz.func265
def S_203(N:Nat):FnSpec:=⟨.pair tI tN,(.pair .bool .nil),[false],F_203 N,false⟩
theorem Z_203(N:Nat):SN 218 (S_203 N):=snd ⟨[((265,[]),S_202 N)],[],[],[],[]⟩ ⟨[],[],[],[]⟩ N ((q7 (Z_202 N) (cb Tryz.func265) q9)) Tryz.func218
def S_204(N:Nat):FnSpec:=⟨tN,(.pair .bool .nil),[false],F_204 N,false⟩
theorem Z_204(N:Nat):SN 330 (S_204 N):=snd ⟨[],[],[],[],[]⟩ ⟨[],[],[],[]⟩ N q9 Tryz.func330
def S_205(N:Nat):FnSpec:=⟨.pair (.slice tI) tN,(.pair tI (.pair .bool .nil)),[false,false],F_205 N,false⟩
theorem Z_205(N:Nat):SN 326 (S_205 N):=snd ⟨[((218,[]),S_203 N),((330,[]),S_204 N)],[],[],[],[]⟩ ⟨[(0,⟨[.tmp 7 tI,.tmp 8 tI],[9]++rG 13 18,[],[]⟩)],[],[],[]⟩ N ((q7 (Z_203 N) (cb Tryz.func218) (q7 (Z_204 N) (cb Tryz.func330) q9))) Tryz.func326
def S_206(N:Nat):FnSpec:=⟨.pair (.slice tI) tN,(.pair (.slice TSpan) tN),[true,false],F_206 N,false⟩
theorem Z_206(N:Nat):SN 311 (S_206 N):=snd ⟨[((326,[]),S_205 N)],[],[],[],[]⟩ ⟨[],[],[],[]⟩ N ((q7 (Z_205 N) (cb Tryz.func326) q9)) Tryz.func311
def S_207(N:Nat):FnSpec:=⟨.pair tI (.pair tI tN),tN,[false],F_207 N,false⟩
theorem K_207:CB 289:=cb Tryz.func289
theorem Z_207(N:Nat):SN 289 (S_207 N):=snd ⟨[],[],[],[],[]⟩ ⟨[],[],[],[]⟩ N q9 Tryz.func289
def S_208(N:Nat):FnSpec:=⟨.pair TTable (.pair tI (.pair tI tN)),tN,[false],F_208 N,false⟩
theorem K_208:CB 288:=cb Tryz.func288
theorem Z_208(N:Nat):SN 288 (S_208 N):=snd ⟨[((289,[]),S_207 N),((311,[]),S_206 N)],[],[],[],[]⟩ ⟨[(0,⟨[.tmp 13 tI,.tmp 34 tI],[15,17]++rG 35 32,[],[]⟩),(2,⟨[.tmp 13 tI,.tmp 40 tI],[],[],[]⟩)],[],[],[]⟩ N ((q7 (Z_207 N) K_207 (q7 (Z_206 N) (cb Tryz.func311) q9))) Tryz.func288
def S_209(N:Nat):FnSpec:=⟨.pair TCorner (.pair tI tN),tN,[false],F_209 N,false⟩
theorem Z_209(N:Nat):SN 291 (S_209 N):=snd ⟨[],[],[],[],[]⟩ ⟨[],[],[],[]⟩ N q9 Tryz.func291
def S_210(N:Nat):FnSpec:=⟨.pair tI (.pair tI tN),tN,[false],F_210 N,false⟩
theorem Z_210(N:Nat):SN 290 (S_210 N):=snd ⟨[((289,[]),S_207 N)],[],[],[],[]⟩ ⟨[],[],[],[]⟩ N ((q7 (Z_207 N) K_207 q9)) Tryz.func290
def S_211(N:Nat):FnSpec:=⟨.pair (.ptr Tview) (.pair TCorner (.pair tI (.pair tI tN))),tN,[false],F_211 N,false⟩
theorem Z_211(N:Nat):SN 255 (S_211 N):=snd ⟨[((256,[]),S_200 N),((287,[]),S_201 N),((288,[]),S_208 N),((289,[]),S_207 N),((290,[]),S_210 N),((291,[]),S_209 N)],[],[],[],[]⟩ ⟨[],[],[],[]⟩ N ((q7 (Z_200 N) K_200 (q7 (Z_201 N) K_201 (q7 (Z_208 N) K_208 (q7 (Z_207 N) K_207 (q7 (Z_210 N) (cb Tryz.func290) (q7 (Z_209 N) (cb Tryz.func291) q9))))))) Tryz.func255
def S_212(N:Nat):FnSpec:=⟨tN,tN,[false],F_212 N,false⟩
theorem Z_212(N:Nat):SN 312 (S_212 N):=snd ⟨[],[],[],[],[]⟩ ⟨[(0,⟨[.tmp 3 tI,.tmp 4 tI],rG 5 17,[],[]⟩)],[],[],[]⟩ N q9 Tryz.func312
def S_213(N:Nat):FnSpec:=⟨.pair tI (.pair tI tN),tN,[false],F_213 N,false⟩
theorem Z_213(N:Nat):SN 292 (S_213 N):=snd ⟨[((289,[]),S_207 N),((312,[]),S_212 N)],[],[],[],[]⟩ ⟨[],[],[],[]⟩ N ((q7 (Z_207 N) K_207 (q7 (Z_212 N) (cb Tryz.func312) q9))) Tryz.func292
def S_214(N:Nat):FnSpec:=⟨.pair (.ptr Tview) (.pair tI (.pair tI tN)),tN,[false],F_214 N,false⟩
theorem Z_214(N:Nat):SN 257 (S_214 N):=snd ⟨[((256,[]),S_200 N),((287,[]),S_201 N),((288,[]),S_208 N),((292,[]),S_213 N)],[],[],[],[]⟩ ⟨[],[],[],[]⟩ N ((q7 (Z_200 N) K_200 (q7 (Z_201 N) K_201 (q7 (Z_208 N) K_208 (q7 (Z_213 N) (cb Tryz.func292) q9))))) Tryz.func257
def S_215(N:Nat):FnSpec:=⟨.pair (.ptr Tview) (.pair TCorner (.pair tI (.pair TSpan .nil))),(.pair TSpan (.pair TSpan .nil)),[false,false,false,false],F_215 N,false⟩
theorem Z_215(N:Nat):SN 203 (S_215 N):=snd ⟨[((255,[]),S_211 N),((256,[]),S_200 N),((257,[]),S_214 N)],[],[],[],[]⟩ ⟨[],[],[],[]⟩ N ((q7 (Z_211 N) (cb Tryz.func255) (q7 (Z_200 N) K_200 (q7 (Z_214 N) (cb Tryz.func257) q9)))) Tryz.func203
def S_216(N:Nat):FnSpec:=⟨.pair TSpan (.pair TSpan .nil),(.pair TSpan .nil),[false,false],F_216 N,false⟩
theorem Z_216(N:Nat):SN 204 (S_216 N):=snd ⟨[],[],[],[],[]⟩ ⟨[],[],[],[]⟩ N q9 Tryz.func204
def S_217(N:Nat):FnSpec:=⟨.pair TSpan (.pair TSpan .nil),(.pair TSpan .nil),[false,false],F_217 N,false⟩
theorem Z_217(N:Nat):SN 253 (S_217 N):=snd ⟨[],[],[],[],[]⟩ ⟨[],[],[],[]⟩ N q9 Tryz.func253
def S_218(N:Nat):FnSpec:=⟨.pair (.ptr Tgraph) (.pair TCorner (.pair (.slice TSource) (.pair TTiming tN))),(.pair .bool (.pair TSource .nil)),[false,false,false,false,false,false],F_218 N,false⟩
theorem KI_201:CB 201:=cb Tryz.func201
noncomputable def I_219:InF:=⟨201,Tryz.f201,⟨[],[],[],[]⟩,[],false⟩
theorem Z_218(N:Nat):SN 152 (S_218 N):=snd ⟨[((200,[]),S_196 N),((202,[]),S_199 N),((203,[]),S_215 N),((204,[]),S_216 N),((253,[]),S_217 N)],[],[I_219],[],[]⟩ ⟨[(0,⟨[.tmp 39 tI,.var 3 [some tI,some tI,some tI,some tI,some tI],.var 4 [some .bool]],[17,18,19,20]++rG 40 44,[],[]⟩)],[],[],[]⟩ N ((q7 (Z_196 N) (cb Tryz.func200) (q7 (Z_199 N) (cb Tryz.func202) (q7 (Z_215 N) (cb Tryz.func203) (q7 (Z_216 N) (cb Tryz.func204) (q7 (Z_217 N) (cb Tryz.func253) q9)))))) Tryz.func152 (hi:=(q374 Tryz.func201 KI_201 q603))
def S_220(N:Nat):FnSpec:=⟨.pair (.ptr Tgraph) (.pair TCorner (.pair (.slice TSource) (.pair (.slice tI) .nil))),(.pair TTiming (.pair .bool .nil)),[true,true,true,false],F_220 N,false⟩
theorem Z_220(N:Nat):SN 88 (S_220 N):=snd ⟨[((151,[]),S_193 N),((152,[]),S_218 N),((153,[]),S_176 N)],[],[],[],[]⟩ ⟨[(0,⟨[.tmp 22 tI,.row 2 .bool,.row 3 TSpan,.row 4 TSpan],[12,13,14]++rG 23 19++rG 43 18,[],[]⟩)],[],[],[(1,0,.bool),(1,1,TSpan),(1,2,TSpan)]⟩ N ((q7 (Z_193 N) (cb Tryz.func151) (q7 (Z_218 N) (cb Tryz.func152) (q7 (Z_176 N) K_176 q9)))) Tryz.func88
def S_221(N:Nat):FnSpec:=⟨.pair TBlock (.pair TCorner (.pair (.slice tI) (.pair (.slice TSource) .nil))),(.pair TTiming tN),[true,true,true,false],F_221 N,false⟩
theorem Z_221(N:Nat):SN 42 (S_221 N):=snd ⟨[((87,[]),S_192 N),((88,[]),S_220 N)],[],[],[],[]⟩ ⟨[],[],[],[(2,0,.bool),(2,1,TSpan),(2,2,TSpan)]⟩ N ((q7 (Z_192 N) (cb Tryz.func87) (q7 (Z_220 N) (cb Tryz.func88) q9))) Tryz.func42
def S_222(N:Nat):FnSpec:=⟨.pair TBlock (.pair (.slice TCorner) (.pair (.slice tI) (.pair (.slice TSource) .nil))),(.pair (.slice TTiming) tN),[true,false],F_222 N,true⟩
theorem Z_222(N:Nat):SN 13 (S_222 N):=snd ⟨[((40,[]),S_157 N),((41,[]),S_161 N),((42,[]),S_221 N)],[],[],[],[]⟩ ⟨[(1,⟨[.tmp 25 tI,.drow 1 TTiming],[12,13,14]++rG 26 13++rG 40 5,[(10,(.map TTiming))],[]⟩)],[],[(8,(.map TTiming))],[]⟩ N ((q7 (Z_157 N) K_157 (q7 (Z_161 N) (cb Tryz.func41) (q7 (Z_221 N) (cb Tryz.func42) q9)))) Tryz.func13
def S_223(N:Nat):FnSpec:=⟨.pair (.slice .bool) (.pair (.slice .bool) .nil),(.pair .bool .nil),[false],F_223 N,false⟩
theorem Z_223(N:Nat):SN 89 (S_223 N):=snd ⟨[],[],[],[],[]⟩ ⟨[(0,⟨[.tmp 5 tI],rG 11 15,[],[]⟩)],[],[],[]⟩ N q9 Tryz.func89
def S_224(N:Nat):FnSpec:=⟨.pair TSpan (.pair TSpan .nil),(.pair .bool .nil),[false],F_224 N,false⟩
theorem K_224:CB 96:=cb Tryz.func96
theorem Z_224(N:Nat):SN 96 (S_224 N):=snd ⟨[],[],[],[],[]⟩ ⟨[],[],[],[]⟩ N q9 Tryz.func96
def S_225(N:Nat):FnSpec:=⟨.pair (.slice TSpan) (.pair (.slice TSpan) .nil),(.pair .bool .nil),[false],F_225 N,false⟩
theorem Z_225(N:Nat):SN 90 (S_225 N):=snd ⟨[((96,[]),S_224 N)],[],[],[],[]⟩ ⟨[(0,⟨[.tmp 5 tI],rG 11 16,[],[]⟩)],[],[],[]⟩ N ((q7 (Z_224 N) K_224 q9)) Tryz.func90
def S_226(N:Nat):FnSpec:=⟨.pair TTiming (.pair TTiming .nil),(.pair .bool .nil),[false],F_226 N,false⟩
theorem Z_226(N:Nat):SN 43 (S_226 N):=snd ⟨[((89,[]),S_223 N),((90,[]),S_225 N)],[],[],[],[]⟩ ⟨[],[],[],[]⟩ N ((q7 (Z_223 N) (cb Tryz.func89) (q7 (Z_225 N) (cb Tryz.func90) q9))) Tryz.func43
def S_227(N:Nat):FnSpec:=⟨.pair (.slice TTiming) (.pair (.slice TTiming) .nil),(.pair .bool .nil),[false],F_227 N,false⟩
theorem Z_227(N:Nat):SN 14 (S_227 N):=snd ⟨[((43,[]),S_226 N)],[],[],[],[]⟩ ⟨[(0,⟨[.tmp 5 tI],rG 11 16,[],[]⟩)],[],[],[]⟩ N ((q7 (Z_226 N) (cb Tryz.func43) q9)) Tryz.func14
def S_228(N:Nat):FnSpec:=⟨.pair TPin (.pair TPin .nil),(.pair .bool .nil),[false],F_228 N,false⟩
theorem Z_228(N:Nat):SN 258 (S_228 N):=snd ⟨[],[],[],[],[]⟩ ⟨[],[],[],[]⟩ N q9 Tryz.func258
def S_229(N:Nat):FnSpec:=⟨.pair (.slice TPin) (.pair (.slice TPin) .nil),(.pair .bool .nil),[false],F_229 N,false⟩
theorem Z_229(N:Nat):SN 206 (S_229 N):=snd ⟨[((258,[]),S_228 N)],[],[],[],[]⟩ ⟨[(0,⟨[.tmp 5 tI],rG 11 16,[],[]⟩)],[],[],[]⟩ N ((q7 (Z_228 N) (cb Tryz.func258) q9)) Tryz.func206
def S_230(N:Nat):FnSpec:=⟨.pair (.slice tI) (.pair (.slice tI) .nil),(.pair .bool .nil),[false],F_230 N,false⟩
theorem K_230:CB 17:=cb Tryz.func17
theorem Z_230(N:Nat):SN 17 (S_230 N):=snd ⟨[],[],[],[],[]⟩ ⟨[(0,⟨[.tmp 5 tI],rG 11 15,[],[]⟩)],[],[],[]⟩ N q9 Tryz.func17
def S_231(N:Nat):FnSpec:=⟨.pair TTable (.pair TTable .nil),(.pair .bool .nil),[false],F_231 N,false⟩
theorem Z_231(N:Nat):SN 313 (S_231 N):=snd ⟨[((17,[]),S_230 N)],[],[],[],[]⟩ ⟨[],[],[],[]⟩ N ((q7 (Z_230 N) K_230 q9)) Tryz.func313
def S_232(N:Nat):FnSpec:=⟨.pair (.slice TTable) (.pair (.slice TTable) .nil),(.pair .bool .nil),[false],F_232 N,false⟩
theorem Z_232(N:Nat):SN 293 (S_232 N):=snd ⟨[((313,[]),S_231 N)],[],[],[],[]⟩ ⟨[(0,⟨[.tmp 5 tI],rG 11 16,[],[]⟩)],[],[],[]⟩ N ((q7 (Z_231 N) (cb Tryz.func313) q9)) Tryz.func293
def S_233(N:Nat):FnSpec:=⟨.pair TArc (.pair TArc .nil),(.pair .bool .nil),[false],F_233 N,false⟩
theorem Z_233(N:Nat):SN 259 (S_233 N):=snd ⟨[((293,[]),S_232 N)],[],[],[],[]⟩ ⟨[],[],[],[]⟩ N ((q7 (Z_232 N) (cb Tryz.func293) q9)) Tryz.func259
def S_234(N:Nat):FnSpec:=⟨.pair (.slice TArc) (.pair (.slice TArc) .nil),(.pair .bool .nil),[false],F_234 N,false⟩
theorem Z_234(N:Nat):SN 207 (S_234 N):=snd ⟨[((259,[]),S_233 N)],[],[],[],[]⟩ ⟨[(0,⟨[.tmp 5 tI],rG 11 16,[],[]⟩)],[],[],[]⟩ N ((q7 (Z_233 N) (cb Tryz.func259) q9)) Tryz.func207
def S_235(N:Nat):FnSpec:=⟨.pair TCell (.pair TCell .nil),(.pair .bool .nil),[false],F_235 N,false⟩
theorem Z_235(N:Nat):SN 154 (S_235 N):=snd ⟨[((17,[]),S_230 N),((206,[]),S_229 N),((207,[]),S_234 N)],[],[],[],[]⟩ ⟨[],[],[],[]⟩ N ((q7 (Z_230 N) K_230 (q7 (Z_229 N) (cb Tryz.func206) (q7 (Z_234 N) (cb Tryz.func207) q9)))) Tryz.func154
def S_236(N:Nat):FnSpec:=⟨.pair (.slice TCell) (.pair (.slice TCell) .nil),(.pair .bool .nil),[false],F_236 N,false⟩
theorem Z_236(N:Nat):SN 91 (S_236 N):=snd ⟨[((154,[]),S_235 N)],[],[],[],[]⟩ ⟨[(0,⟨[.tmp 5 tI],rG 11 16,[],[]⟩)],[],[],[]⟩ N ((q7 (Z_235 N) (cb Tryz.func154) q9)) Tryz.func91
def S_237(N:Nat):FnSpec:=⟨.pair TLibrary (.pair TLibrary .nil),(.pair .bool .nil),[false],F_237 N,false⟩
theorem Z_237(N:Nat):SN 44 (S_237 N):=snd ⟨[((91,[]),S_236 N)],[],[],[],[]⟩ ⟨[],[],[],[]⟩ N ((q7 (Z_236 N) (cb Tryz.func91) q9)) Tryz.func44
def S_238(N:Nat):FnSpec:=⟨.pair TInstance (.pair TInstance .nil),(.pair .bool .nil),[false],F_238 N,false⟩
theorem Z_238(N:Nat):SN 155 (S_238 N):=snd ⟨[((17,[]),S_230 N)],[],[],[],[]⟩ ⟨[],[],[],[]⟩ N ((q7 (Z_230 N) K_230 q9)) Tryz.func155
def S_239(N:Nat):FnSpec:=⟨.pair (.slice TInstance) (.pair (.slice TInstance) .nil),(.pair .bool .nil),[false],F_239 N,false⟩
theorem Z_239(N:Nat):SN 92 (S_239 N):=snd ⟨[((155,[]),S_238 N)],[],[],[],[]⟩ ⟨[(0,⟨[.tmp 5 tI],rG 11 16,[],[]⟩)],[],[],[]⟩ N ((q7 (Z_238 N) (cb Tryz.func155) q9)) Tryz.func92
def S_240(N:Nat):FnSpec:=⟨.pair (.slice .str) (.pair (.slice .str) .nil),(.pair .bool .nil),[false],F_240 N,false⟩
theorem Z_240(N:Nat):SN 93 (S_240 N):=snd ⟨[],[],[],[],[]⟩ ⟨[(0,⟨[.tmp 5 tI],rG 11 15,[],[]⟩)],[],[],[]⟩ N q9 Tryz.func93
def S_241(N:Nat):FnSpec:=⟨.pair TPort (.pair TPort .nil),(.pair .bool .nil),[false],F_241 N,false⟩
theorem Z_241(N:Nat):SN 156 (S_241 N):=snd ⟨[],[],[],[],[]⟩ ⟨[],[],[],[]⟩ N q9 Tryz.func156
def S_242(N:Nat):FnSpec:=⟨.pair (.slice TPort) (.pair (.slice TPort) .nil),(.pair .bool .nil),[false],F_242 N,false⟩
theorem Z_242(N:Nat):SN 94 (S_242 N):=snd ⟨[((156,[]),S_241 N)],[],[],[],[]⟩ ⟨[(0,⟨[.tmp 5 tI],rG 11 16,[],[]⟩)],[],[],[]⟩ N ((q7 (Z_241 N) (cb Tryz.func156) q9)) Tryz.func94
def S_243(N:Nat):FnSpec:=⟨.pair TDesign (.pair TDesign .nil),(.pair .bool .nil),[false],F_243 N,false⟩
theorem Z_243(N:Nat):SN 45 (S_243 N):=snd ⟨[((92,[]),S_239 N),((93,[]),S_240 N),((94,[]),S_242 N)],[],[],[],[]⟩ ⟨[],[],[],[]⟩ N ((q7 (Z_239 N) (cb Tryz.func92) (q7 (Z_240 N) (cb Tryz.func93) (q7 (Z_242 N) (cb Tryz.func94) q9)))) Tryz.func45
def S_244(N:Nat):FnSpec:=⟨.pair TWire (.pair TWire .nil),(.pair .bool .nil),[false],F_244 N,false⟩
theorem Z_244(N:Nat):SN 95 (S_244 N):=snd ⟨[((17,[]),S_230 N)],[],[],[],[]⟩ ⟨[],[],[],[]⟩ N ((q7 (Z_230 N) K_230 q9)) Tryz.func95
def S_245(N:Nat):FnSpec:=⟨.pair (.slice TWire) (.pair (.slice TWire) .nil),(.pair .bool .nil),[false],F_245 N,false⟩
theorem Z_245(N:Nat):SN 46 (S_245 N):=snd ⟨[((95,[]),S_244 N)],[],[],[],[]⟩ ⟨[(0,⟨[.tmp 5 tI],rG 11 16,[],[]⟩)],[],[],[]⟩ N ((q7 (Z_244 N) (cb Tryz.func95) q9)) Tryz.func46
def S_246(N:Nat):FnSpec:=⟨.pair TBlock (.pair TBlock .nil),(.pair .bool .nil),[false],F_246 N,false⟩
theorem Z_246(N:Nat):SN 15 (S_246 N):=snd ⟨[((44,[]),S_237 N),((45,[]),S_243 N),((46,[]),S_245 N)],[],[],[],[]⟩ ⟨[],[],[],[]⟩ N ((q7 (Z_237 N) (cb Tryz.func44) (q7 (Z_243 N) (cb Tryz.func45) (q7 (Z_245 N) (cb Tryz.func46) q9)))) Tryz.func15
def S_247(N:Nat):FnSpec:=⟨.pair TCorner (.pair TCorner .nil),(.pair .bool .nil),[false],F_247 N,false⟩
theorem Z_247(N:Nat):SN 47 (S_247 N):=snd ⟨[],[],[],[],[]⟩ ⟨[],[],[],[]⟩ N q9 Tryz.func47
def S_248(N:Nat):FnSpec:=⟨.pair (.slice TCorner) (.pair (.slice TCorner) .nil),(.pair .bool .nil),[false],F_248 N,false⟩
theorem Z_248(N:Nat):SN 16 (S_248 N):=snd ⟨[((47,[]),S_247 N)],[],[],[],[]⟩ ⟨[(0,⟨[.tmp 5 tI],rG 11 16,[],[]⟩)],[],[],[]⟩ N ((q7 (Z_247 N) (cb Tryz.func47) q9)) Tryz.func16
def S_249(N:Nat):FnSpec:=⟨.pair TSource (.pair TSource .nil),(.pair .bool .nil),[false],F_249 N,false⟩
theorem Z_249(N:Nat):SN 48 (S_249 N):=snd ⟨[((96,[]),S_224 N)],[],[],[],[]⟩ ⟨[],[],[],[]⟩ N ((q7 (Z_224 N) K_224 q9)) Tryz.func48
def S_250(N:Nat):FnSpec:=⟨.pair (.slice TSource) (.pair (.slice TSource) .nil),(.pair .bool .nil),[false],F_250 N,false⟩
theorem Z_250(N:Nat):SN 18 (S_250 N):=snd ⟨[((48,[]),S_249 N)],[],[],[],[]⟩ ⟨[(0,⟨[.tmp 5 tI],rG 11 16,[],[]⟩)],[],[],[]⟩ N ((q7 (Z_249 N) (cb Tryz.func48) q9)) Tryz.func18
def S_251(N:Nat):FnSpec:=⟨tN,(.pair .str .nil),[false],F_251 N,false⟩
def H_251:Hints:=⟨[(0,⟨[.tmp 0 tI,.tmp 3 .str],rG 6 12,[],[]⟩)],[],[],[]⟩
noncomputable def C_251(N:Nat):Ctx:=⟨[],[],[],[],[]⟩
theorem K_251:CB 52:=cb Tryz.func52
theorem ZT_251(N:Nat):Sound Tryz.prog (fun _=>True) 52 (S_251 N):=q351 (C:=C_251 N) (H:=H_251) (N:=N) (q385 (fun _ _ _ _=>trivial) (by kernel_rfl) q9) Tryz.func52 (by kernel_rfl) (fun x r h=>(show pevFn Tryz.prog (C_251 N) N H_251 (S_251 N) Tryz.f52 x=(S_251 N).fn x by kernel_rfl).trans h)
def M_252(N:Nat):MSpec:=⟨(.slice TPin),F_252 N⟩
theorem KM_252:CB 157:=cb Tryz.func157
theorem EM_252(N:Nat)(x:Ty.den (.slice TPin))(k:Int):mevFn Tryz.prog [] [(52,fun k=>obind (F_251 N (k,())) fun r=>some r.1)] N [(0,([1,5],[0]))] (.slice TPin) Tryz.f157 x k=F_252 N x k:=by kernel_rfl
theorem ZM_252(N:Nat):MarkOk Tryz.prog 157 (M_252 N):=q39 (N:=N) (H:=[(0,([1,5],[0]))]) q45 (q132 (q86 (ZT_251 N)) K_251 q57) Tryz.func157 (fun x k n h=>(EM_252 N x k).trans h)
def M_253(N:Nat):MSpec:=⟨(.slice tI),F_253 N⟩
theorem KM_253:CB 21:=cb Tryz.func21
theorem EM_253(N:Nat)(x:Ty.den (.slice tI))(k:Int):mevFn Tryz.prog [] [] N [(0,([1,5],[0]))] (.slice tI) Tryz.f21 x k=F_253 N x k:=by kernel_rfl
theorem ZM_253(N:Nat):MarkOk Tryz.prog 21 (M_253 N):=q39 (N:=N) (H:=[(0,([1,5],[0]))]) q45 q57 Tryz.func21 (fun x k n h=>(EM_253 N x k).trans h)
def M_254(N:Nat):MSpec:=⟨(.slice TTable),F_254 N⟩
theorem KM_254:CB 208:=cb Tryz.func208
theorem EM_254(N:Nat)(x:Ty.den (.slice TTable))(k:Int):mevFn Tryz.prog [(21,M_253 N)] [] N [(0,([1,5],[0]))] (.slice TTable) Tryz.f208 x k=F_254 N x k:=by kernel_rfl
theorem ZM_254(N:Nat):MarkOk Tryz.prog 208 (M_254 N):=q39 (N:=N) (H:=[(0,([1,5],[0]))]) (q35 (ZM_253 N) KM_253 q45) q57 Tryz.func208 (fun x k n h=>(EM_254 N x k).trans h)
def M_255(N:Nat):MSpec:=⟨(.slice TArc),F_255 N⟩
theorem KM_255:CB 158:=cb Tryz.func158
theorem EM_255(N:Nat)(x:Ty.den (.slice TArc))(k:Int):mevFn Tryz.prog [(208,M_254 N)] [] N [(0,([1,5],[0]))] (.slice TArc) Tryz.f158 x k=F_255 N x k:=by kernel_rfl
theorem ZM_255(N:Nat):MarkOk Tryz.prog 158 (M_255 N):=q39 (N:=N) (H:=[(0,([1,5],[0]))]) (q35 (ZM_254 N) KM_254 q45) q57 Tryz.func158 (fun x k n h=>(EM_255 N x k).trans h)
def M_256(N:Nat):MSpec:=⟨(.slice TCell),F_256 N⟩
theorem KM_256:CB 97:=cb Tryz.func97
theorem EM_256(N:Nat)(x:Ty.den (.slice TCell))(k:Int):mevFn Tryz.prog [(21,M_253 N),(157,M_252 N),(158,M_255 N)] [(52,fun k=>obind (F_251 N (k,())) fun r=>some r.1)] N [(0,([1,5],[0]))] (.slice TCell) Tryz.f97 x k=F_256 N x k:=by kernel_rfl
theorem ZM_256(N:Nat):MarkOk Tryz.prog 97 (M_256 N):=q39 (N:=N) (H:=[(0,([1,5],[0]))]) (q35 (ZM_253 N) KM_253 (q35 (ZM_252 N) KM_252 (q35 (ZM_255 N) KM_255 q45))) (q132 (q86 (ZT_251 N)) K_251 q57) Tryz.func97 (fun x k n h=>(EM_256 N x k).trans h)
def M_257(N:Nat):MSpec:=⟨TLibrary,F_257 N⟩
theorem KM_257:CB 49:=cb Tryz.func49
theorem EM_257(N:Nat)(x:Ty.den TLibrary)(k:Int):mevFn Tryz.prog [(97,M_256 N)] [] N [] TLibrary Tryz.f49 x k=F_257 N x k:=by kernel_rfl
theorem ZM_257(N:Nat):MarkOk Tryz.prog 49 (M_257 N):=q39 (N:=N) (H:=[]) (q35 (ZM_256 N) KM_256 q45) q57 Tryz.func49 (fun x k n h=>(EM_257 N x k).trans h)
def M_258(N:Nat):MSpec:=⟨(.slice TInstance),F_258 N⟩
theorem KM_258:CB 98:=cb Tryz.func98
theorem EM_258(N:Nat)(x:Ty.den (.slice TInstance))(k:Int):mevFn Tryz.prog [(21,M_253 N)] [(52,fun k=>obind (F_251 N (k,())) fun r=>some r.1)] N [(0,([1,5],[0]))] (.slice TInstance) Tryz.f98 x k=F_258 N x k:=by kernel_rfl
theorem ZM_258(N:Nat):MarkOk Tryz.prog 98 (M_258 N):=q39 (N:=N) (H:=[(0,([1,5],[0]))]) (q35 (ZM_253 N) KM_253 q45) (q132 (q86 (ZT_251 N)) K_251 q57) Tryz.func98 (fun x k n h=>(EM_258 N x k).trans h)
def M_259(N:Nat):MSpec:=⟨(.slice .str),F_259 N⟩
theorem KM_259:CB 99:=cb Tryz.func99
theorem EM_259(N:Nat)(x:Ty.den (.slice .str))(k:Int):mevFn Tryz.prog [] [(52,fun k=>obind (F_251 N (k,())) fun r=>some r.1)] N [(0,([1,5],[0]))] (.slice .str) Tryz.f99 x k=F_259 N x k:=by kernel_rfl
theorem ZM_259(N:Nat):MarkOk Tryz.prog 99 (M_259 N):=q39 (N:=N) (H:=[(0,([1,5],[0]))]) q45 (q132 (q86 (ZT_251 N)) K_251 q57) Tryz.func99 (fun x k n h=>(EM_259 N x k).trans h)
def M_260(N:Nat):MSpec:=⟨(.slice TPort),F_260 N⟩
theorem KM_260:CB 100:=cb Tryz.func100
theorem EM_260(N:Nat)(x:Ty.den (.slice TPort))(k:Int):mevFn Tryz.prog [] [(52,fun k=>obind (F_251 N (k,())) fun r=>some r.1)] N [(0,([1,5],[0]))] (.slice TPort) Tryz.f100 x k=F_260 N x k:=by kernel_rfl
theorem ZM_260(N:Nat):MarkOk Tryz.prog 100 (M_260 N):=q39 (N:=N) (H:=[(0,([1,5],[0]))]) q45 (q132 (q86 (ZT_251 N)) K_251 q57) Tryz.func100 (fun x k n h=>(EM_260 N x k).trans h)
def M_261(N:Nat):MSpec:=⟨TDesign,F_261 N⟩
theorem KM_261:CB 50:=cb Tryz.func50
theorem EM_261(N:Nat)(x:Ty.den TDesign)(k:Int):mevFn Tryz.prog [(98,M_258 N),(99,M_259 N),(100,M_260 N)] [] N [] TDesign Tryz.f50 x k=F_261 N x k:=by kernel_rfl
theorem ZM_261(N:Nat):MarkOk Tryz.prog 50 (M_261 N):=q39 (N:=N) (H:=[]) (q35 (ZM_258 N) KM_258 (q35 (ZM_259 N) KM_259 (q35 (ZM_260 N) KM_260 q45))) q57 Tryz.func50 (fun x k n h=>(EM_261 N x k).trans h)
def M_262(N:Nat):MSpec:=⟨(.slice TWire),F_262 N⟩
theorem KM_262:CB 51:=cb Tryz.func51
theorem EM_262(N:Nat)(x:Ty.den (.slice TWire))(k:Int):mevFn Tryz.prog [(21,M_253 N)] [] N [(0,([1,5],[0]))] (.slice TWire) Tryz.f51 x k=F_262 N x k:=by kernel_rfl
theorem ZM_262(N:Nat):MarkOk Tryz.prog 51 (M_262 N):=q39 (N:=N) (H:=[(0,([1,5],[0]))]) (q35 (ZM_253 N) KM_253 q45) q57 Tryz.func51 (fun x k n h=>(EM_262 N x k).trans h)
def M_263(N:Nat):MSpec:=⟨TBlock,F_263 N⟩
theorem KM_263:CB 19:=cb Tryz.func19
theorem EM_263(N:Nat)(x:Ty.den TBlock)(k:Int):mevFn Tryz.prog [(49,M_257 N),(50,M_261 N),(51,M_262 N)] [] N [] TBlock Tryz.f19 x k=F_263 N x k:=by kernel_rfl
theorem ZM_263(N:Nat):MarkOk Tryz.prog 19 (M_263 N):=q39 (N:=N) (H:=[]) (q35 (ZM_257 N) KM_257 (q35 (ZM_261 N) KM_261 (q35 (ZM_262 N) KM_262 q45))) q57 Tryz.func19 (fun x k n h=>(EM_263 N x k).trans h)
def M_264(N:Nat):MSpec:=⟨(.slice TCorner),F_264 N⟩
theorem KM_264:CB 20:=cb Tryz.func20
theorem EM_264(N:Nat)(x:Ty.den (.slice TCorner))(k:Int):mevFn Tryz.prog [] [(52,fun k=>obind (F_251 N (k,())) fun r=>some r.1)] N [(0,([1,5],[0]))] (.slice TCorner) Tryz.f20 x k=F_264 N x k:=by kernel_rfl
theorem ZM_264(N:Nat):MarkOk Tryz.prog 20 (M_264 N):=q39 (N:=N) (H:=[(0,([1,5],[0]))]) q45 (q132 (q86 (ZT_251 N)) K_251 q57) Tryz.func20 (fun x k n h=>(EM_264 N x k).trans h)
def M_265(N:Nat):MSpec:=⟨(.slice TSource),F_265 N⟩
theorem KM_265:CB 22:=cb Tryz.func22
theorem EM_265(N:Nat)(x:Ty.den (.slice TSource))(k:Int):mevFn Tryz.prog [] [] N [(0,([1,5],[0]))] (.slice TSource) Tryz.f22 x k=F_265 N x k:=by kernel_rfl
theorem ZM_265(N:Nat):MarkOk Tryz.prog 22 (M_265 N):=q39 (N:=N) (H:=[(0,([1,5],[0]))]) q45 q57 Tryz.func22 (fun x k n h=>(EM_265 N x k).trans h)
def S_266(N M:Nat):IoSpec:=⟨(.pair (.slice .bool) tN),[true,false],tN,(.pair (.slice .bool) .nil),F_266 N M⟩
noncomputable def C_266(N M:Nat):Ctx:=⟨[],[],[],[],[(53,.io (S_266 N M))]⟩
theorem K_266:CB 53:=cb Tryz.func53
noncomputable def L_266(N:Nat):MarkL:=[]
theorem Z_266(N:Nat):∀ M,IoOk Tryz.prog 53 (S_266 N M)
 | 0=>fun w args x r ys ok R _ _ _ _ h=>nomatch (show none=some (r,ys) from h)
 | M+1=>sndIO (C_266 N M) (L_266 N) ⟨[(0,⟨[.tmp 1 tI,.tmp 5 tI,.row 0 .bool],rG 6 14,[],[]⟩)],[],[],[]⟩ N (q9) (q45) ((q375 (Z_266 N M) K_266 q606)) Tryz.func53
def S_267(N M:Nat):IoSpec:=⟨(.pair (.slice TSpan) tN),[true,false],tN,(.pair (.slice TSpan) .nil),F_267 N M⟩
noncomputable def C_267(N M:Nat):Ctx:=⟨[],[],[],[],[(54,.io (S_267 N M))]⟩
theorem K_267:CB 54:=cb Tryz.func54
noncomputable def L_267(N:Nat):MarkL:=[]
theorem Z_267(N:Nat):∀ M,IoOk Tryz.prog 54 (S_267 N M)
 | 0=>fun w args x r ys ok R _ _ _ _ h=>nomatch (show none=some (r,ys) from h)
 | M+1=>sndIO (C_267 N M) (L_267 N) ⟨[(0,⟨[.tmp 1 tI,.tmp 5 tI,.row 0 TSpan],rG 6 20,[],[]⟩)],[],[],[]⟩ N (q9) (q45) ((q375 (Z_267 N M) K_267 q606)) Tryz.func54
def S_268(N:Nat):FnSpec:=⟨.pair (.slice .bool) tN,tN,[false],F_268 N,false⟩
theorem Z_268(N:Nat):SN 55 (S_268 N):=snd ⟨[],[],[],[],[]⟩ ⟨[(0,⟨[.tmp 1 tI,.tmp 5 tI],rG 6 16,[],[]⟩)],[],[],[]⟩ N q9 Tryz.func55
def S_269(N:Nat):FnSpec:=⟨.pair (.slice TSpan) tN,tN,[false],F_269 N,false⟩
theorem Z_269(N:Nat):SN 56 (S_269 N):=snd ⟨[],[],[],[],[]⟩ ⟨[(0,⟨[.tmp 1 tI,.tmp 5 tI],rG 6 24,[],[]⟩)],[],[],[]⟩ N q9 Tryz.func56
def S_270(N:Nat):FnSpec:=⟨.pair (.slice TTiming) tN,tN,[false],F_270 N,false⟩
theorem Z_270(N:Nat):SN 24 (S_270 N):=snd ⟨[((55,[]),S_268 N),((56,[]),S_269 N)],[],[],[],[]⟩ ⟨[(0,⟨[.tmp 1 tI,.tmp 5 tI],rG 6 33,[],[]⟩)],[],[],[]⟩ N ((q7 (Z_268 N) (cb Tryz.func55) (q7 (Z_269 N) (cb Tryz.func56) q9))) Tryz.func24
def S_271(N:Nat):FnSpec:=⟨.pair TBlock (.pair (.slice TCorner) (.pair (.slice tI) (.pair (.slice TSource) .nil))),(.pair .bool .nil),[false],F_271 N,false⟩
theorem KI_23:CB 23:=cb Tryz.func23
noncomputable def I_272:InF:=⟨23,Tryz.f23,⟨[(0,⟨[.tmp 1 tI,.tmp 5 tI,.drow 11 TTiming],rG 6 27,[],[]⟩)],[],[],[]⟩,[],false⟩
noncomputable def L_271(N:Nat):MarkL:=[(19,M_263 N),(20,M_264 N),(21,M_253 N),(22,M_265 N)]
theorem Z_271(N:Nat):SN 3 (S_271 N):=sndX ⟨[((5,[]),S_18 N),((6,[]),S_20 N),((7,[]),S_21 N),((8,[]),S_103 N),((9,[]),S_40 N),((10,[]),S_42 N),((11,[]),S_24 N),((12,[]),S_45 N),((13,[]),S_222 N),((14,[]),S_227 N),((15,[]),S_246 N),((16,[]),S_248 N),((17,[]),S_230 N),((18,[]),S_250 N),((24,[]),S_270 N)],[43,45,47,49],[I_272],[],[(53,.io (S_266 N N)),(54,.io (S_267 N N))]⟩ (L_271 N) ⟨[],[],[],[]⟩ N ((q7 (Z_18 N) (cb Tryz.func5) (q7 (Z_20 N) (cb Tryz.func6) (q7 (Z_21 N) (cb Tryz.func7) (q7 (Z_103 N) (cb Tryz.func8) (q7 (Z_40 N) (cb Tryz.func9) (q7 (Z_42 N) (cb Tryz.func10) (q7 (Z_24 N) K_24 (q7 (Z_45 N) (cb Tryz.func12) (q7 (Z_222 N) (cb Tryz.func13) (q7 (Z_227 N) (cb Tryz.func14) (q7 (Z_246 N) (cb Tryz.func15) (q7 (Z_248 N) (cb Tryz.func16) (q7 (Z_230 N) K_230 (q7 (Z_250 N) (cb Tryz.func18) (q7 (Z_270 N) (cb Tryz.func24) q9)))))))))))))))) ((q35 (ZM_263 N) KM_263 (q35 (ZM_264 N) KM_264 (q35 (ZM_253 N) KM_253 (q35 (ZM_265 N) KM_265 q45))))) ((q375 (Z_266 N N) K_266 (q375 (Z_267 N N) K_267 q606))) Tryz.func3 (hi:=(q374 Tryz.func23 KI_23 q603))
end Go.Proofs.YtdgabcjahjmdoaaGreatDoor
