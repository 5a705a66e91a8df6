/- The functions' contracts. Printed by my dec.py. No condition of its own. -/
import Derived.Test.YtlmfklfjmalanaaGreatDoorPvD1
namespace Go.Proofs.YtlmfklfjmalanaaGreatDoor
open Go.RowKit
set_option maxRecDepth 100000
set_option linter.unusedVariables false
def S_155(N:Nat):FnSpec:=⟨.pair TCell .nil,(.pair .bool .nil),[false],F_155 N,false⟩
theorem Z_155(N:Nat):SN 310 (S_155 N):=snd ⟨[((169,[]),S_132 N),((329,[]),S_144 N),((330,[]),S_154 N)],[],[],[],[]⟩ ⟨[(0,⟨[.tmp 3 tI,.tmp 9 tI],[5]++rG 10 8,[],[]⟩)],[],[],[]⟩ N ((q7 (Z_132 N) K_132 (q7 (Z_144 N) K_144 (q7 (Z_154 N) (cb Tryz.func330) q9)))) Tryz.func310
def S_156(N:Nat):FnSpec:=⟨.pair TCell .nil,(.pair .bool .nil),[false],F_156 N,false⟩
theorem Z_156(N:Nat):SN 276 (S_156 N):=snd ⟨[((159,[]),S_121 N),((232,[]),S_120 N),((308,[]),S_126 N),((309,[]),S_150 N),((310,[]),S_155 N)],[],[],[],[]⟩ ⟨[],[],[],[]⟩ N ((q7 (Z_121 N) K_121 (q7 (Z_120 N) K_120 (q7 (Z_126 N) (cb Tryz.func308) (q7 (Z_150 N) (cb Tryz.func309) (q7 (Z_155 N) (cb Tryz.func310) q9)))))) Tryz.func276
def S_157(N:Nat):FnSpec:=⟨.pair TLibrary .nil,(.pair .bool .nil),[false],F_157 N,false⟩
theorem Z_157(N:Nat):SN 226 (S_157 N):=snd ⟨[((276,[]),S_156 N),((277,[]),S_125 N)],[],[],[],[]⟩ ⟨[(0,⟨[.tmp 9 tI,.row 1 .str],[5]++rG 10 12,[(3,.str)],[]⟩)],[],[],[]⟩ N ((q7 (Z_156 N) (cb Tryz.func276) (q7 (Z_125 N) K_125 q9))) Tryz.func226
def S_158(N:Nat):FnSpec:=⟨.pair TDesign .nil,(.pair .bool .nil),[false],F_158 N,false⟩
theorem Z_158(N:Nat):SN 227 (S_158 N):=snd ⟨[((277,[]),S_125 N)],[],[],[],[]⟩ ⟨[(0,⟨[.tmp 12 tI,.row 1 .str],[6]++rG 13 9,[(3,.str)],[]⟩),(2,⟨[.tmp 25 tI,.row 2 .str],[8]++rG 26 9,[(4,.str)],[]⟩)],[],[],[]⟩ N ((q7 (Z_125 N) K_125 q9)) Tryz.func227
def S_159(N:Nat):FnSpec:=⟨.pair (.slice TCell) .nil,tN,[false],F_159 N,false⟩
theorem Z_159(N:Nat):SN 278 (S_159 N):=snd ⟨[],[],[],[],[]⟩ ⟨[],[],[],[]⟩ N q9 Tryz.func278
def S_160(N:Nat):FnSpec:=⟨.pair (.slice .str) .nil,tN,[false],F_160 N,false⟩
theorem Z_160(N:Nat):SN 280 (S_160 N):=snd ⟨[],[],[],[],[]⟩ ⟨[],[],[],[]⟩ N q9 Tryz.func280
def S_161(N:Nat):FnSpec:=⟨.pair TDesign tN,(.pair .bool .nil),[false],F_161 N,false⟩
theorem K_161:CB 229:=cb Tryz.func229
theorem Z_161(N:Nat):SN 229 (S_161 N):=snd ⟨[((232,[]),S_120 N),((280,[]),S_160 N)],[],[],[],[]⟩ ⟨[],[],[],[]⟩ N ((q7 (Z_120 N) K_120 (q7 (Z_160 N) (cb Tryz.func280) q9))) Tryz.func229
def S_162(N:Nat):FnSpec:=⟨.pair tI (.pair (.ptr TDesign) .nil),(.pair .bool .nil),[false],F_162 N,false⟩
theorem Z_162(N:Nat):SN 279 (S_162 N):=snd ⟨[((229,[]),S_161 N)],[],[],[],[]⟩ ⟨[],[],[],[]⟩ N ((q7 (Z_161 N) K_161 q9)) Tryz.func279
def S_163(N:Nat):FnSpec:=⟨.pair (.slice tI) (.pair (.clo 279 (.pair (.ptr TDesign) .nil)) .nil),tN,[false],F_163 N,false⟩
theorem Z_163(N:Nat):SN 190 (S_163 N):=snd ⟨[((279,[]),S_162 N)],[],[],[],[]⟩ ⟨[(0,⟨[.tmp 8 tI],[5]++rG 9 8++[18],[],[]⟩)],[],[],[]⟩ N ((q7 (Z_162 N) (cb Tryz.func279) q9)) Tryz.func190
def S_164(N:Nat):FnSpec:=⟨.pair (.slice tI) (.pair (.clo 279 (.pair (.ptr TDesign) .nil)) .nil),(.pair .bool .nil),[false],F_164 N,false⟩
theorem Z_164(N:Nat):SN 120 (S_164 N):=snd ⟨[((190,[279]),S_163 N)],[],[],[],[]⟩ ⟨[],[],[],[]⟩ N ((q7 (Z_163 N) (cb Tryz.func190) q9)) Tryz.func120
def S_165(N:Nat):FnSpec:=⟨.pair TDesign (.pair TLibrary (.pair TInstance .nil)),(.pair .bool .nil),[false],F_165 N,false⟩
theorem Z_165(N:Nat):SN 228 (S_165 N):=snd ⟨[((120,[279]),S_164 N),((232,[]),S_120 N),((278,[]),S_159 N)],[],[],[],[]⟩ ⟨[],[(1,[(3,some TDesign)])],[],[]⟩ N ((q7 (Z_164 N) (cb Tryz.func120) (q7 (Z_120 N) K_120 (q7 (Z_159 N) (cb Tryz.func278) q9)))) Tryz.func228
def S_166(N:Nat):FnSpec:=⟨tN,(.pair .bool .nil),[false],F_166 N,false⟩
theorem Z_166(N:Nat):SN 231 (S_166 N):=snd ⟨[],[],[],[],[]⟩ ⟨[],[],[],[]⟩ N q9 Tryz.func231
def S_167(N:Nat):FnSpec:=⟨.pair (.slice tI) (.pair (.clo 231 .nil) .nil),tN,[false],F_167 N,false⟩
theorem Z_167(N:Nat):SN 281 (S_167 N):=snd ⟨[((231,[]),S_166 N)],[],[],[],[]⟩ ⟨[(0,⟨[.tmp 8 tI],[5]++rG 9 8++[18],[],[]⟩)],[],[],[]⟩ N ((q7 (Z_166 N) (cb Tryz.func231) q9)) Tryz.func281
def S_168(N:Nat):FnSpec:=⟨.pair (.slice tI) (.pair (.clo 231 .nil) .nil),(.pair .bool .nil),[false],F_168 N,false⟩
theorem Z_168(N:Nat):SN 230 (S_168 N):=snd ⟨[((281,[231]),S_167 N)],[],[],[],[]⟩ ⟨[],[],[],[]⟩ N ((q7 (Z_167 N) (cb Tryz.func281) q9)) Tryz.func230
def S_169(N:Nat):FnSpec:=⟨.pair TLibrary (.pair TDesign .nil),(.pair .bool .nil),[false],F_169 N,false⟩
theorem Z_169(N:Nat):SN 156 (S_169 N):=snd ⟨[((226,[]),S_157 N),((227,[]),S_158 N),((228,[]),S_165 N),((229,[]),S_161 N),((230,[231]),S_168 N)],[],[],[],[]⟩ ⟨[(0,⟨[.tmp 25 tI,.row 2 tI],[7]++rG 26 22,[],[]⟩),(2,⟨[.tmp 51 tI,.row 2 tI],[9]++rG 52 29,[],[]⟩)],[],[],[]⟩ N ((q7 (Z_157 N) (cb Tryz.func226) (q7 (Z_158 N) (cb Tryz.func227) (q7 (Z_165 N) (cb Tryz.func228) (q7 (Z_161 N) K_161 (q7 (Z_168 N) (cb Tryz.func230) q9)))))) Tryz.func156
def S_170(N:Nat):FnSpec:=⟨.pair TDesign .nil,(.pair (.slice Tl05Place) .nil),[true],F_170 N,false⟩
theorem K_170:CB 157:=cb Tryz.func157
theorem Z_170(N:Nat):SN 157 (S_170 N):=snd ⟨[],[],[],[],[]⟩ ⟨[(0,⟨[.tmp 13 tI,.row 1 Tl05Place],[4,5,6,7]++rG 14 27,[(3,Tl05Place)],[]⟩),(2,⟨[.tmp 21 tI,.row 1 Tl05Place],[],[],[]⟩),(4,⟨[.tmp 44 tI,.row 1 Tl05Place],[8,9]++rG 45 15,[],[]⟩)],[],[],[]⟩ N q9 Tryz.func157
def S_171(N:Nat):FnSpec:=⟨.pair TWire .nil,(.pair .bool .nil),[false],F_171 N,false⟩
theorem Z_171(N:Nat):SN 233 (S_171 N):=snd ⟨[((232,[]),S_120 N)],[],[],[],[]⟩ ⟨[(0,⟨[.tmp 8 tI],[3,4]++rG 9 29,[],[]⟩)],[],[],[]⟩ N ((q7 (Z_120 N) K_120 q9)) Tryz.func233
def S_172(N:Nat):FnSpec:=⟨.pair TWire tN,(.pair .bool .nil),[false],F_172 N,false⟩
theorem Z_172(N:Nat):SN 158 (S_172 N):=snd ⟨[((162,[]),S_128 N),((169,[]),S_132 N),((232,[]),S_120 N),((233,[]),S_171 N)],[],[],[],[]⟩ ⟨[],[],[],[]⟩ N ((q7 (Z_128 N) K_128 (q7 (Z_132 N) K_132 (q7 (Z_120 N) K_120 (q7 (Z_171 N) (cb Tryz.func233) q9))))) Tryz.func158
def S_173(N:Nat):FnSpec:=⟨.pair TBlock .nil,(.pair .bool .nil),[false],F_173 N,false⟩
theorem Z_173(N:Nat):SN 102 (S_173 N):=snd ⟨[((156,[]),S_169 N),((157,[]),S_170 N),((158,[]),S_172 N)],[],[],[],[]⟩ ⟨[(0,⟨[.tmp 32 tI,.row 1 tI],[5]++rG 33 14,[],[]⟩),(2,⟨[.tmp 50 tI],[6,7]++rG 51 12,[],[]⟩)],[],[],[]⟩ N ((q7 (Z_169 N) (cb Tryz.func156) (q7 (Z_170 N) K_170 (q7 (Z_172 N) (cb Tryz.func158) q9)))) Tryz.func102
def S_174(N:Nat):FnSpec:=⟨.pair tI tN,(.pair .bool .nil),[false],F_174 N,false⟩
theorem Z_174(N:Nat):SN 160 (S_174 N):=snd ⟨[],[],[],[],[]⟩ ⟨[],[],[],[]⟩ N q9 Tryz.func160
def S_175(N:Nat):FnSpec:=⟨.pair TCorner .nil,(.pair .bool .nil),[false],F_175 N,false⟩
theorem Z_175(N:Nat):SN 103 (S_175 N):=snd ⟨[((159,[]),S_121 N),((160,[]),S_174 N)],[],[],[],[]⟩ ⟨[],[],[],[]⟩ N ((q7 (Z_121 N) K_121 (q7 (Z_174 N) (cb Tryz.func160) q9))) Tryz.func103
def S_176(N:Nat):FnSpec:=⟨.pair TArc .nil,(.pair (.slice TSpan) .nil),[true],F_176 N,false⟩
theorem Z_176(N:Nat):SN 236 (S_176 N):=snd ⟨[],[],[],[],[]⟩ ⟨[],[],[(2,TSpan)],[]⟩ N q9 Tryz.func236
def S_177(N:Nat):FnSpec:=⟨.pair TBlock (.pair TInstance tN),(.pair (.slice TLink) .nil),[true],F_177 N,false⟩
theorem Z_177(N:Nat):SN 161 (S_177 N):=snd ⟨[((236,[]),S_176 N)],[],[],[],[]⟩ ⟨[(0,⟨[.tmp 21 tI,.row 2 TLink],[8,9,11]++rG 22 34,[(7,TLink)],[]⟩),(2,⟨[.tmp 29 tI,.row 2 TLink],[],[],[]⟩)],[],[],[]⟩ N ((q7 (Z_176 N) (cb Tryz.func236) q9)) Tryz.func161
def S_178(N:Nat):FnSpec:=⟨.pair (.slice tI) .nil,(.pair (.slice tI) .nil),[true],F_178 N,false⟩
def H_178:Hints:=⟨[],[],[(2,tI)],[]⟩
noncomputable def C_178(N:Nat):Ctx:=⟨[],[],[],[],[]⟩
theorem E_178(N:Nat)(xs:List (Ty.den tI)):pevFnW Tryz.prog (C_178 N) N H_178 (S_178 N) Tryz.f237 [.one (.sln tI xs)]=F_178 N (xs,()):=by kernel_rfl
theorem E0_178(N:Nat):pevFnW Tryz.prog (C_178 N) N H_178 (S_178 N) Tryz.f237 [.one (.slz tI)]=F_178 N ([],()):=by kernel_rfl
theorem Z_178(N:Nat):Sound Tryz.prog PRE 237 (S_178 N):=q405 (C:=C_178 N) (H:=H_178) (N:=N) (e:=tI) (rs:=(.pair (.slice tI) .nil)) (own:=[true]) (F:=F_178 N) (q538 q659 (by kernel_rfl) q9) Tryz.func237 (fun xs r h=>(E_178 N xs).trans h) (fun r h=>(E0_178 N).trans h)
def S_179(N:Nat):FnSpec:=⟨.pair TDesign tN,(.pair (.slice tI) .nil),[true],F_179 N,false⟩
theorem Z_179(N:Nat):SN 238 (S_179 N):=snd ⟨[((157,[]),S_170 N)],[],[],[],[]⟩ ⟨[(0,⟨[.tmp 11 tI,.row 2 tI],[6,7]++rG 12 18,[(5,tI)],[]⟩)],[],[],[]⟩ N ((q7 (Z_170 N) K_170 q9)) Tryz.func238
def S_180(N:Nat):FnSpec:=⟨.pair TDesign (.pair TLibrary (.pair Tl05Place .nil)),tN,[false],F_180 N,false⟩
theorem Z_180(N:Nat):SN 239 (S_180 N):=snd ⟨[],[],[],[],[]⟩ ⟨[],[],[],[]⟩ N q9 Tryz.func239
def S_181(N:Nat):FnSpec:=⟨.pair TBlock tN,(.pair (.slice tI) .nil),[true],F_181 N,false⟩
theorem K_181:CB 163:=cb Tryz.func163
theorem Z_181(N:Nat):SN 163 (S_181 N):=snd ⟨[((157,[]),S_170 N),((237,[]),S_178 N),((238,[]),S_179 N),((239,[]),S_180 N)],[],[],[],[]⟩ ⟨[(0,⟨[.tmp 27 tI,.row 2 tI],[8,9]++rG 28 24,[],[]⟩),(2,⟨[.tmp 10 tI,.row 2 tI],rG 55 18,[],[]⟩)],[],[],[]⟩ N ((q7 (Z_170 N) K_170 (q7 (Z_178 N) (cb Tryz.func237) (q7 (Z_179 N) (cb Tryz.func238) (q7 (Z_180 N) (cb Tryz.func239) q9))))) Tryz.func163
def S_182(N:Nat):FnSpec:=⟨.pair TBlock tN,(.pair (.slice tI) .nil),[true],F_182 N,false⟩
theorem Z_182(N:Nat):SN 240 (S_182 N):=snd ⟨[((163,[]),S_181 N)],[],[],[],[]⟩ ⟨[(0,⟨[.tmp 8 tI,.row 3 tI],rG 20 28,[],[]⟩)],[],[],[]⟩ N ((q7 (Z_181 N) K_181 q9)) Tryz.func240
def S_183(N:Nat):FnSpec:=⟨.pair TBlock tN,(.pair (.slice tI) .nil),[true],F_183 N,false⟩
theorem Z_183(N:Nat):SN 164 (S_183 N):=snd ⟨[((240,[]),S_182 N)],[],[],[],[]⟩ ⟨[(0,⟨[.tmp 19 tI,.row 2 tI],[8]++rG 20 11,[(6,tI)],[]⟩)],[],[],[]⟩ N ((q7 (Z_182 N) (cb Tryz.func240) q9)) Tryz.func164
def S_184(N:Nat):FnSpec:=⟨.pair TBlock .nil,(.pair (.ptr Tview) .nil),[false],F_184 N,false⟩
theorem Z_184(N:Nat):SN 104 (S_184 N):=snd ⟨[((157,[]),S_170 N),((161,[]),S_177 N),((162,[]),S_128 N),((163,[]),S_181 N),((164,[]),S_183 N)],[54,112],[],[],[]⟩ ⟨[(0,⟨[.tmp 4 tI,.tmp 25 tI,.var 2 [some (.slice TCell),some (.slice TInstance),some (.slice .str),some (.slice TPort),some (.slice TWire),none,none,none,none,none],.row 3 TLink],[6]++rG 26 21,[],[(2,6,TLink)]⟩),(2,⟨[.tmp 60 tI,.row 4 tI,.tree 5 tI],[9,10]++rG 61 11++[84]++rG 72 12,[],[]⟩),(4,⟨[.tmp 88 tI,.var 2 [some (.slice TCell),some (.slice TInstance),some (.slice .str),some (.slice TPort),some (.slice TWire),none,none,none,none,none],.row 3 TLink,.row 6 tI,.row 7 (.slice tI)],[11,12,13,14]++rG 89 66,[],[(2,7,tI),(2,8,(.slice tI))]⟩),(6,⟨[.tmp 122 tI,.var 2 [some (.slice TCell),some (.slice TInstance),some (.slice .str),some (.slice TPort),some (.slice TWire),none,none,none,none,none],.row 3 TLink],[],[],[]⟩),(8,⟨[.tmp 127 tI,.var 2 [some (.slice TCell),some (.slice TInstance),some (.slice .str),some (.slice TPort),some (.slice TWire),none,none,none,none,none],.row 3 TLink],[],[],[]⟩)],[(1000004,[(8,none)])],[],[]⟩ N ((q7 (Z_170 N) K_170 (q7 (Z_177 N) (cb Tryz.func161) (q7 (Z_128 N) K_128 (q7 (Z_181 N) K_181 (q7 (Z_183 N) (cb Tryz.func164) q9)))))) Tryz.func104
def S_185(N:Nat):FnSpec:=⟨.pair (.slice Tl05Place) .nil,tN,[false],F_185 N,false⟩
theorem Z_185(N:Nat):SN 241 (S_185 N):=snd ⟨[],[],[],[],[]⟩ ⟨[],[],[],[]⟩ N q9 Tryz.func241
def S_186(N:Nat):FnSpec:=⟨.pair (.ptr Tview) .nil,tN,[false],F_186 N,false⟩
theorem K_186:CB 165:=cb Tryz.func165
theorem Z_186(N:Nat):SN 165 (S_186 N):=snd ⟨[((241,[]),S_185 N)],[],[],[],[]⟩ ⟨[],[],[],[]⟩ N ((q7 (Z_185 N) (cb Tryz.func241) q9)) Tryz.func165
def S_187(N:Nat):FnSpec:=⟨.pair (.slice .bool) .nil,tN,[false],F_187 N,false⟩
theorem Z_187(N:Nat):SN 166 (S_187 N):=snd ⟨[],[],[],[],[]⟩ ⟨[],[],[],[]⟩ N q9 Tryz.func166
def S_188(N:Nat):FnSpec:=⟨.pair (.slice TSpan) .nil,tN,[false],F_188 N,false⟩
theorem Z_188(N:Nat):SN 167 (S_188 N):=snd ⟨[],[],[],[],[]⟩ ⟨[],[],[],[]⟩ N q9 Tryz.func167
def S_189(N:Nat):FnSpec:=⟨tN,(.pair .bool .nil),[false],F_189 N,false⟩
theorem Z_189(N:Nat):SN 179 (S_189 N):=snd ⟨[((232,[]),S_120 N)],[],[],[],[]⟩ ⟨[],[],[],[]⟩ N ((q7 (Z_120 N) K_120 q9)) Tryz.func179
def S_190(N:Nat):FnSpec:=⟨.pair TSpan .nil,(.pair .bool .nil),[false],F_190 N,false⟩
theorem K_190:CB 112:=cb Tryz.func112
theorem Z_190(N:Nat):SN 112 (S_190 N):=snd ⟨[((179,[]),S_189 N)],[],[],[],[]⟩ ⟨[],[],[],[]⟩ N ((q7 (Z_189 N) (cb Tryz.func179) q9)) Tryz.func112
def S_191(N:Nat):FnSpec:=⟨tN,(.pair .bool .nil),[false],F_191 N,false⟩
theorem Z_191(N:Nat):SN 242 (S_191 N):=snd ⟨[((232,[]),S_120 N)],[],[],[],[]⟩ ⟨[],[],[],[]⟩ N ((q7 (Z_120 N) K_120 q9)) Tryz.func242
def S_192(N:Nat):FnSpec:=⟨.pair TSpan .nil,(.pair .bool .nil),[false],F_192 N,false⟩
theorem K_192:CB 168:=cb Tryz.func168
theorem Z_192(N:Nat):SN 168 (S_192 N):=snd ⟨[((112,[]),S_190 N),((242,[]),S_191 N)],[],[],[],[]⟩ ⟨[],[],[],[]⟩ N ((q7 (Z_190 N) K_190 (q7 (Z_191 N) (cb Tryz.func242) q9))) Tryz.func168
def S_193(N:Nat):FnSpec:=⟨.pair (.ptr Tview) (.pair TTiming .nil),(.pair .bool .nil),[false],F_193 N,false⟩
theorem Z_193(N:Nat):SN 105 (S_193 N):=snd ⟨[((112,[]),S_190 N),((165,[]),S_186 N),((166,[]),S_187 N),((167,[]),S_188 N),((168,[]),S_192 N)],[],[],[],[]⟩ ⟨[(0,⟨[.tmp 32 tI],[6,7]++rG 33 43,[],[]⟩)],[],[],[]⟩ N ((q7 (Z_190 N) K_190 (q7 (Z_186 N) K_186 (q7 (Z_187 N) (cb Tryz.func166) (q7 (Z_188 N) (cb Tryz.func167) (q7 (Z_192 N) K_192 q9)))))) Tryz.func105
def S_194(N:Nat):FnSpec:=⟨.pair (.slice TLink) .nil,tN,[false],F_194 N,false⟩
theorem K_194:CB 170:=cb Tryz.func170
theorem Z_194(N:Nat):SN 170 (S_194 N):=snd ⟨[],[],[],[],[]⟩ ⟨[],[],[],[]⟩ N q9 Tryz.func170
def S_195(N:Nat):FnSpec:=⟨.pair (.ptr Tview) (.pair (.slice tI) .nil),(.pair .bool .nil),[false],F_195 N,false⟩
theorem Z_195(N:Nat):SN 106 (S_195 N):=snd ⟨[((169,[]),S_132 N),((170,[]),S_194 N),((171,[]),S_133 N)],[],[],[],[]⟩ ⟨[],[],[],[]⟩ N ((q7 (Z_132 N) K_132 (q7 (Z_194 N) K_194 (q7 (Z_133 N) K_133 q9)))) Tryz.func106
def S_196(N:Nat):FnSpec:=⟨.pair (.ptr Tview) tN,(.pair .bool .nil),[false],F_196 N,false⟩
theorem Z_196(N:Nat):SN 172 (S_196 N):=snd ⟨[((165,[]),S_186 N),((232,[]),S_120 N)],[],[],[],[]⟩ ⟨[],[],[],[]⟩ N ((q7 (Z_186 N) K_186 (q7 (Z_120 N) K_120 q9))) Tryz.func172
def S_197(N:Nat):FnSpec:=⟨.pair (.ptr Tview) (.pair (.slice TSource) .nil),(.pair .bool .nil),[false],F_197 N,false⟩
theorem Z_197(N:Nat):SN 107 (S_197 N):=snd ⟨[((112,[]),S_190 N),((168,[]),S_192 N),((172,[]),S_196 N)],[],[],[],[]⟩ ⟨[(0,⟨[.tmp 9 tI],[5,6]++rG 10 37,[],[]⟩)],[],[],[]⟩ N ((q7 (Z_190 N) K_190 (q7 (Z_192 N) K_192 (q7 (Z_196 N) (cb Tryz.func172) q9)))) Tryz.func107
def S_198(N:Nat):FnSpec:=⟨.pair (.ptr Tview) (.pair (.slice tI) .nil),(.pair (.ptr Tgraph) .nil),[false],F_198 N,false⟩
theorem Z_198(N:Nat):SN 108 (S_198 N):=snd ⟨[],[],[],[],[]⟩ ⟨[(0,⟨[.tmp 23 tI,.row 0 .bool],[6]++rG 24 9,[],[]⟩),(2,⟨[.tmp 35 tI,.row 0 .bool],[8]++rG 36 10,[],[]⟩)],[],[],[]⟩ N q9 Tryz.func108
def S_199(N:Nat):FnSpec:=⟨.pair TLink .nil,(.pair .bool .nil),[false],F_199 N,false⟩
theorem Z_199(N:Nat):SN 174 (S_199 N):=snd ⟨[],[],[],[],[]⟩ ⟨[],[],[],[]⟩ N q9 Tryz.func174
def S_200(N:Nat):FnSpec:=⟨.pair (.ptr Tgraph) (.pair (.clo 174 .nil) .nil),(.pair (.slice tI) .nil),[true],F_200 N,false⟩
theorem Z_200(N:Nat):SN 173 (S_200 N):=snd ⟨[((174,[]),S_199 N)],[],[],[],[]⟩ ⟨[(0,⟨[.tmp 16 tI,.row 0 tI],[6,7]++rG 17 21,[(5,tI)],[]⟩)],[],[],[]⟩ N ((q7 (Z_199 N) (cb Tryz.func174) q9)) Tryz.func173
def S_201(N:Nat):FnSpec:=⟨.pair (.slice tI) tN,tN,[false],F_201 N,false⟩
theorem Z_201(N:Nat):SN 175 (S_201 N):=snd ⟨[],[],[],[],[]⟩ ⟨[(0,⟨[.tmp 8 tI],[5]++rG 9 8++[18],[],[]⟩)],[],[],[]⟩ N q9 Tryz.func175
def S_202(N:Nat):FnSpec:=⟨.pair TLink (.pair (.ptr tI) .nil),(.pair .bool .nil),[false],F_202 N,false⟩
theorem Z_202(N:Nat):SN 244 (S_202 N):=snd ⟨[],[],[],[],[]⟩ ⟨[],[],[],[]⟩ N q9 Tryz.func244
def S_203(N:Nat):FnSpec:=⟨.pair (.ptr Tgraph) (.pair (.clo 244 (.pair (.ptr tI) .nil)) .nil),(.pair (.slice tI) .nil),[true],F_203 N,false⟩
theorem Z_203(N:Nat):SN 173 (S_203 N):=snd ⟨[((244,[]),S_202 N)],[],[],[],[]⟩ ⟨[(0,⟨[.tmp 16 tI,.row 0 tI],[6,7]++rG 17 21,[(5,tI)],[]⟩)],[],[],[]⟩ N ((q7 (Z_202 N) (cb Tryz.func244) q9)) Tryz.func173
def S_204(N:Nat):FnSpec:=⟨.pair (.ptr Tgraph) tN,(.pair (.slice tI) .nil),[true],F_204 N,false⟩
theorem Z_204(N:Nat):SN 176 (S_204 N):=snd ⟨[((173,[244]),S_203 N)],[],[],[],[]⟩ ⟨[],[(1,[(3,some tI)])],[],[]⟩ N ((q7 (Z_203 N) (cb Tryz.func173) q9)) Tryz.func176
def S_205(N:Nat):FnSpec:=⟨.pair (.ptr Tgraph) .nil,(.pair (.slice tI) (.pair .bool .nil)),[true,false],F_205 N,false⟩
theorem Z_205(N:Nat):SN 109 (S_205 N):=snd ⟨[((165,[]),S_186 N),((173,[174]),S_200 N),((175,[]),S_201 N),((176,[]),S_204 N)],[],[],[],[]⟩ ⟨[(0,⟨[.tmp 20 tI,.row 0 tI],[6]++rG 21 20,[],[]⟩),(2,⟨[.tmp 43 tI,.row 0 tI,.row 2 tI],[8,10]++rG 44 38,[(7,tI)],[]⟩),(4,⟨[.tmp 60 tI,.row 0 tI],[],[],[]⟩)],[],[(2,tI)],[]⟩ N ((q7 (Z_186 N) K_186 (q7 (Z_200 N) (cb Tryz.func173) (q7 (Z_201 N) (cb Tryz.func175) (q7 (Z_204 N) (cb Tryz.func176) q9))))) Tryz.func109
def S_206(N:Nat):FnSpec:=⟨.pair TBlock (.pair TCorner (.pair (.slice tI) (.pair (.slice TSource) (.pair (.ptr TTiming) .nil)))),(.pair (.ptr Tgraph) (.pair (.slice tI) tN)),[false,true,false],F_206 N,false⟩
theorem Z_206(N:Nat):SN 61 (S_206 N):=snd ⟨[((102,[]),S_173 N),((103,[]),S_175 N),((104,[]),S_184 N),((105,[]),S_193 N),((106,[]),S_195 N),((107,[]),S_197 N),((108,[]),S_198 N),((109,[]),S_205 N)],[],[],[],[]⟩ ⟨[],[],[(11,tI)],[]⟩ N ((q7 (Z_173 N) (cb Tryz.func102) (q7 (Z_175 N) (cb Tryz.func103) (q7 (Z_184 N) (cb Tryz.func104) (q7 (Z_193 N) (cb Tryz.func105) (q7 (Z_195 N) (cb Tryz.func106) (q7 (Z_197 N) (cb Tryz.func107) (q7 (Z_198 N) (cb Tryz.func108) (q7 (Z_205 N) (cb Tryz.func109) q9))))))))) Tryz.func61
def S_207(N:Nat):FnSpec:=⟨.pair (.ptr Tview) .nil,(.pair TTiming .nil),[true,true,true],F_207 N,false⟩
theorem Z_207(N:Nat):SN 110 (S_207 N):=snd ⟨[((165,[]),S_186 N)],[],[],[],[]⟩ ⟨[],[],[],[]⟩ N ((q7 (Z_186 N) K_186 q9)) Tryz.func110
def S_208(N:Nat):FnSpec:=⟨.pair TSource (.pair (.ptr tI) .nil),(.pair .bool .nil),[false],F_208 N,false⟩
theorem Z_208(N:Nat):SN 188 (S_208 N):=snd ⟨[],[],[],[],[]⟩ ⟨[],[],[],[]⟩ N q9 Tryz.func188
def S_209(N:Nat):FnSpec:=⟨.pair (.slice TSource) (.pair (.clo 188 (.pair (.ptr tI) .nil)) .nil),tN,[false],F_209 N,false⟩
theorem Z_209(N:Nat):SN 187 (S_209 N):=snd ⟨[((188,[]),S_208 N)],[],[],[],[]⟩ ⟨[(0,⟨[.tmp 8 tI],[5]++rG 9 8++[18],[],[]⟩)],[],[],[]⟩ N ((q7 (Z_208 N) (cb Tryz.func188) q9)) Tryz.func187
def S_210(N:Nat):FnSpec:=⟨.pair (.slice TSource) tN,(.pair TSource (.pair .bool .nil)),[false,false,false,false,false,false],F_210 N,false⟩
theorem K_210:CB 118:=cb Tryz.func118
theorem Z_210(N:Nat):SN 118 (S_210 N):=snd ⟨[((187,[188]),S_209 N)],[],[],[],[]⟩ ⟨[],[(1,[(3,some tI)])],[],[]⟩ N ((q7 (Z_209 N) (cb Tryz.func187) q9)) Tryz.func118
def S_211(N:Nat):FnSpec:=⟨.pair TLink (.pair (.ptr tI) .nil),(.pair .bool .nil),[false],F_211 N,false⟩
theorem Z_211(N:Nat):SN 246 (S_211 N):=snd ⟨[],[],[],[],[]⟩ ⟨[],[],[],[]⟩ N q9 Tryz.func246
def S_212(N:Nat):FnSpec:=⟨.pair (.ptr Tgraph) (.pair (.clo 246 (.pair (.ptr tI) .nil)) .nil),(.pair (.slice tI) .nil),[true],F_212 N,false⟩
theorem Z_212(N:Nat):SN 173 (S_212 N):=snd ⟨[((246,[]),S_211 N)],[],[],[],[]⟩ ⟨[(0,⟨[.tmp 16 tI,.row 0 tI],[6,7]++rG 17 21,[(5,tI)],[]⟩)],[],[],[]⟩ N ((q7 (Z_211 N) (cb Tryz.func246) q9)) Tryz.func173
def S_213(N:Nat):FnSpec:=⟨.pair (.ptr Tgraph) tN,(.pair (.slice tI) .nil),[true],F_213 N,false⟩
theorem Z_213(N:Nat):SN 178 (S_213 N):=snd ⟨[((173,[246]),S_212 N)],[],[],[],[]⟩ ⟨[],[(1,[(3,some tI)])],[],[]⟩ N ((q7 (Z_212 N) (cb Tryz.func173) q9)) Tryz.func178
def S_214(N:Nat):FnSpec:=⟨.pair (.ptr Tview) (.pair TLink .nil),tN,[false],F_214 N,false⟩
theorem K_214:CB 192:=cb Tryz.func192
theorem Z_214(N:Nat):SN 192 (S_214 N):=snd ⟨[],[],[],[],[]⟩ ⟨[],[],[],[]⟩ N q9 Tryz.func192
def S_215(N:Nat):FnSpec:=⟨.pair (.ptr Tview) (.pair TLink .nil),(.pair TArc .nil),[false,false,false,false,false,false],F_215 N,false⟩
theorem K_215:CB 252:=cb Tryz.func252
theorem Z_215(N:Nat):SN 252 (S_215 N):=snd ⟨[],[],[],[],[]⟩ ⟨[],[],[],[]⟩ N q9 Tryz.func252
def S_216(N:Nat):FnSpec:=⟨tN,(.pair .bool .nil),[false],F_216 N,false⟩
theorem Z_216(N:Nat):SN 346 (S_216 N):=snd ⟨[],[],[],[],[]⟩ ⟨[],[],[],[]⟩ N q9 Tryz.func346
def S_217(N:Nat):FnSpec:=⟨.pair tI tN,(.pair .bool .nil),[false],F_217 N,false⟩
theorem Z_217(N:Nat):SN 333 (S_217 N):=snd ⟨[((346,[]),S_216 N)],[],[],[],[]⟩ ⟨[],[],[],[]⟩ N ((q7 (Z_216 N) (cb Tryz.func346) q9)) Tryz.func333
def S_218(N:Nat):FnSpec:=⟨tN,(.pair .bool .nil),[false],F_218 N,false⟩
theorem Z_218(N:Nat):SN 334 (S_218 N):=snd ⟨[],[],[],[],[]⟩ ⟨[],[],[],[]⟩ N q9 Tryz.func334
def S_219(N:Nat):FnSpec:=⟨.pair (.slice tI) tN,(.pair tI (.pair .bool .nil)),[false,false],F_219 N,false⟩
theorem Z_219(N:Nat):SN 315 (S_219 N):=snd ⟨[((333,[]),S_217 N),((334,[]),S_218 N)],[],[],[],[]⟩ ⟨[(0,⟨[.tmp 7 tI,.tmp 8 tI],[9]++rG 13 18,[],[]⟩)],[],[],[]⟩ N ((q7 (Z_217 N) (cb Tryz.func333) (q7 (Z_218 N) (cb Tryz.func334) q9))) Tryz.func315
def S_220(N:Nat):FnSpec:=⟨.pair (.slice tI) tN,(.pair (.slice TSpan) tN),[true,false],F_220 N,false⟩
theorem Z_220(N:Nat):SN 291 (S_220 N):=snd ⟨[((315,[]),S_219 N)],[],[],[],[]⟩ ⟨[],[],[],[]⟩ N ((q7 (Z_219 N) (cb Tryz.func315) q9)) Tryz.func291
def S_221(N:Nat):FnSpec:=⟨.pair tI (.pair tI tN),tN,[false],F_221 N,false⟩
theorem K_221:CB 254:=cb Tryz.func254
theorem Z_221(N:Nat):SN 254 (S_221 N):=snd ⟨[],[],[],[],[]⟩ ⟨[],[],[],[]⟩ N q9 Tryz.func254
def S_222(N:Nat):FnSpec:=⟨.pair TTable (.pair tI (.pair tI tN)),tN,[false],F_222 N,false⟩
theorem K_222:CB 253:=cb Tryz.func253
theorem Z_222(N:Nat):SN 253 (S_222 N):=snd ⟨[((254,[]),S_221 N),((291,[]),S_220 N)],[],[],[],[]⟩ ⟨[(0,⟨[.tmp 13 tI,.tmp 34 tI],[15,17]++rG 35 32,[],[]⟩),(2,⟨[.tmp 13 tI,.tmp 40 tI],[],[],[]⟩)],[],[],[]⟩ N ((q7 (Z_221 N) K_221 (q7 (Z_220 N) (cb Tryz.func291) q9))) Tryz.func253
def S_223(N:Nat):FnSpec:=⟨.pair TCorner (.pair tI tN),tN,[false],F_223 N,false⟩
theorem Z_223(N:Nat):SN 256 (S_223 N):=snd ⟨[],[],[],[],[]⟩ ⟨[],[],[],[]⟩ N q9 Tryz.func256
def S_224(N:Nat):FnSpec:=⟨.pair tI (.pair tI tN),tN,[false],F_224 N,false⟩
theorem Z_224(N:Nat):SN 255 (S_224 N):=snd ⟨[((254,[]),S_221 N)],[],[],[],[]⟩ ⟨[],[],[],[]⟩ N ((q7 (Z_221 N) K_221 q9)) Tryz.func255
def S_225(N:Nat):FnSpec:=⟨.pair (.ptr Tview) (.pair TCorner (.pair tI (.pair tI tN))),tN,[false],F_225 N,false⟩
theorem Z_225(N:Nat):SN 191 (S_225 N):=snd ⟨[((192,[]),S_214 N),((252,[]),S_215 N),((253,[]),S_222 N),((254,[]),S_221 N),((255,[]),S_224 N),((256,[]),S_223 N)],[],[],[],[]⟩ ⟨[],[],[],[]⟩ N ((q7 (Z_214 N) K_214 (q7 (Z_215 N) K_215 (q7 (Z_222 N) K_222 (q7 (Z_221 N) K_221 (q7 (Z_224 N) (cb Tryz.func255) (q7 (Z_223 N) (cb Tryz.func256) q9))))))) Tryz.func191
def S_226(N:Nat):FnSpec:=⟨tN,tN,[false],F_226 N,false⟩
theorem Z_226(N:Nat):SN 292 (S_226 N):=snd ⟨[],[],[],[],[]⟩ ⟨[(0,⟨[.tmp 3 tI,.tmp 4 tI],rG 5 17,[],[]⟩)],[],[],[]⟩ N q9 Tryz.func292
def S_227(N:Nat):FnSpec:=⟨.pair tI (.pair tI tN),tN,[false],F_227 N,false⟩
theorem Z_227(N:Nat):SN 257 (S_227 N):=snd ⟨[((254,[]),S_221 N),((292,[]),S_226 N)],[],[],[],[]⟩ ⟨[],[],[],[]⟩ N ((q7 (Z_221 N) K_221 (q7 (Z_226 N) (cb Tryz.func292) q9))) Tryz.func257
def S_228(N:Nat):FnSpec:=⟨.pair (.ptr Tview) (.pair tI (.pair tI tN)),tN,[false],F_228 N,false⟩
theorem Z_228(N:Nat):SN 193 (S_228 N):=snd ⟨[((192,[]),S_214 N),((252,[]),S_215 N),((253,[]),S_222 N),((257,[]),S_227 N)],[],[],[],[]⟩ ⟨[],[],[],[]⟩ N ((q7 (Z_214 N) K_214 (q7 (Z_215 N) K_215 (q7 (Z_222 N) K_222 (q7 (Z_227 N) (cb Tryz.func257) q9))))) Tryz.func193
def S_229(N:Nat):FnSpec:=⟨.pair (.ptr Tview) (.pair TCorner (.pair tI (.pair TSpan .nil))),(.pair TSpan (.pair TSpan .nil)),[false,false,false,false],F_229 N,false⟩
theorem K_229:CB 122:=cb Tryz.func122
theorem Z_229(N:Nat):SN 122 (S_229 N):=snd ⟨[((191,[]),S_225 N),((192,[]),S_214 N),((193,[]),S_228 N)],[],[],[],[]⟩ ⟨[],[],[],[]⟩ N ((q7 (Z_225 N) (cb Tryz.func191) (q7 (Z_214 N) K_214 (q7 (Z_228 N) (cb Tryz.func193) q9)))) Tryz.func122
def S_230(N:Nat):FnSpec:=⟨.pair TSpan (.pair TSpan .nil),(.pair TSpan .nil),[false,false],F_230 N,false⟩
theorem K_230:CB 123:=cb Tryz.func123
theorem Z_230(N:Nat):SN 123 (S_230 N):=snd ⟨[],[],[],[],[]⟩ ⟨[],[],[],[]⟩ N q9 Tryz.func123
def S_231(N:Nat):FnSpec:=⟨.pair TSpan (.pair TSpan .nil),(.pair TSpan .nil),[false,false],F_231 N,false⟩
theorem Z_231(N:Nat):SN 245 (S_231 N):=snd ⟨[],[],[],[],[]⟩ ⟨[],[],[],[]⟩ N q9 Tryz.func245
def S_232(N:Nat):FnSpec:=⟨.pair (.ptr Tgraph) (.pair TCorner (.pair (.slice TSource) (.pair TTiming tN))),(.pair .bool (.pair TSource .nil)),[false,false,false,false,false,false],F_232 N,false⟩
theorem KI_177:CB 177:=cb Tryz.func177
noncomputable def I_233:InF:=⟨177,Tryz.f177,⟨[],[],[],[]⟩,[],false⟩
theorem Z_232(N:Nat):SN 111 (S_232 N):=snd ⟨[((118,[]),S_210 N),((122,[]),S_229 N),((123,[]),S_230 N),((178,[]),S_213 N),((245,[]),S_231 N)],[],[I_233],[],[]⟩ ⟨[(0,⟨[.tmp 39 tI,.var 3 [some tI,some tI,some tI,some tI,some tI],.var 4 [some .bool]],[17,18,19,20]++rG 40 44,[],[]⟩)],[],[],[]⟩ N ((q7 (Z_210 N) K_210 (q7 (Z_229 N) K_229 (q7 (Z_230 N) K_230 (q7 (Z_213 N) (cb Tryz.func178) (q7 (Z_231 N) (cb Tryz.func245) q9)))))) Tryz.func111 (hi:=(q169 Tryz.func177 KI_177 q439))
def S_234(N:Nat):FnSpec:=⟨.pair (.ptr Tgraph) (.pair TCorner (.pair (.slice TSource) (.pair (.slice tI) .nil))),(.pair TTiming (.pair .bool .nil)),[true,true,true,false],F_234 N,false⟩
theorem Z_234(N:Nat):SN 62 (S_234 N):=snd ⟨[((110,[]),S_207 N),((111,[]),S_232 N),((112,[]),S_190 N)],[],[],[],[]⟩ ⟨[(0,⟨[.tmp 22 tI,.row 2 .bool,.row 3 TSpan,.row 4 TSpan],[12,13,14]++rG 23 19++rG 43 18,[],[]⟩)],[],[],[(1,0,.bool),(1,1,TSpan),(1,2,TSpan)]⟩ N ((q7 (Z_207 N) (cb Tryz.func110) (q7 (Z_232 N) (cb Tryz.func111) (q7 (Z_190 N) K_190 q9)))) Tryz.func62
def S_235(N:Nat):FnSpec:=⟨.pair TJob .nil,(.pair (.ptr Twork) tN),[false,false],F_235 N,false⟩
theorem Z_235(N:Nat):SN 29 (S_235 N):=snd ⟨[((61,[]),S_206 N),((62,[]),S_234 N)],[],[],[],[]⟩ ⟨[],[],[],[]⟩ N ((q7 (Z_206 N) (cb Tryz.func61) (q7 (Z_234 N) (cb Tryz.func62) q9))) Tryz.func29
def S_236(N:Nat):FnSpec:=⟨.pair TDesign (.pair TLibrary (.pair Tl05Place .nil)),(.pair .str .nil),[false],F_236 N,false⟩
theorem K_236:CB 124:=cb Tryz.func124
theorem Z_236(N:Nat):SN 124 (S_236 N):=snd ⟨[],[],[],[],[]⟩ ⟨[],[],[],[]⟩ N q9 Tryz.func124
def S_237(N:Nat):FnSpec:=⟨.pair Tl05Place (.pair (.ptr TDesign) (.pair (.ptr TLibrary) (.pair (.ptr .str) .nil))),(.pair .bool .nil),[false],F_237 N,false⟩
theorem Z_237(N:Nat):SN 186 (S_237 N):=snd ⟨[((124,[]),S_236 N)],[],[],[],[]⟩ ⟨[],[],[],[]⟩ N ((q7 (Z_236 N) K_236 q9)) Tryz.func186
def S_238(N:Nat):FnSpec:=⟨(.pair (.slice Tl05Place) (.pair (.clo 186 (.pair (.ptr TDesign) (.pair (.ptr TLibrary) (.pair (.ptr .str) .nil)))) .nil)),tN,[false],F_238 N,false⟩
theorem Z_238(N:Nat):SN 185 (S_238 N):=snd ⟨[((186,[]),S_237 N)],[],[],[],[]⟩ ⟨[(0,⟨[.tmp 8 tI],[5]++rG 9 8++[18],[],[]⟩)],[],[],[]⟩ N ((q7 (Z_237 N) (cb Tryz.func186) q9)) Tryz.func185
def S_239(N:Nat):FnSpec:=⟨.pair TDesign (.pair TLibrary (.pair .str .nil)),tN,[false],F_239 N,false⟩
theorem Z_239(N:Nat):SN 117 (S_239 N):=snd ⟨[((157,[]),S_170 N),((185,[186]),S_238 N)],[],[],[],[]⟩ ⟨[],[(1,[(3,some TDesign),(4,some TLibrary),(5,some .str)])],[],[]⟩ N ((q7 (Z_170 N) K_170 (q7 (Z_238 N) (cb Tryz.func185) q9))) Tryz.func117
def S_240(N:Nat):FnSpec:=⟨.pair (.ptr Tview) (.pair .str .nil),tN,[false],F_240 N,false⟩
theorem Z_240(N:Nat):SN 64 (S_240 N):=snd ⟨[((31,[]),S_123 N),((116,[]),q326 N),((117,[]),S_239 N)],[],[],[],[]⟩ ⟨[],[],[],[]⟩ N ((q7 (Z_123 N) K_123 (q7 (q527 N) q552 (q7 (Z_239 N) (cb Tryz.func117) q9)))) Tryz.func64
def S_241(N:Nat):FnSpec:=⟨.pair (.ptr Tview) tN,(.pair .bool .nil),[false],F_241 N,false⟩
theorem Z_241(N:Nat):SN 189 (S_241 N):=snd ⟨[((170,[]),S_194 N),((232,[]),S_120 N)],[],[],[],[]⟩ ⟨[],[],[],[]⟩ N ((q7 (Z_194 N) K_194 (q7 (Z_120 N) K_120 q9))) Tryz.func189
def S_242(N:Nat):FnSpec:=⟨.pair (.ptr Tview) (.pair (.slice tI) .nil),(.pair .bool .nil),[false],F_242 N,false⟩
theorem Z_242(N:Nat):SN 119 (S_242 N):=snd ⟨[((189,[]),S_241 N)],[],[],[],[]⟩ ⟨[(0,⟨[.tmp 9 tI],[5,6]++rG 10 36,[],[]⟩)],[],[],[]⟩ N ((q7 (Z_241 N) (cb Tryz.func189) q9)) Tryz.func119
def S_243(N:Nat):FnSpec:=⟨.pair tI (.pair (.ptr (.ptr Twork)) .nil),(.pair .bool .nil),[false],F_243 N,false⟩
theorem Z_243(N:Nat):SN 121 (S_243 N):=snd ⟨[],[],[],[],[]⟩ ⟨[],[],[],[]⟩ N q9 Tryz.func121
def S_244(N:Nat):FnSpec:=⟨.pair (.slice tI) (.pair (.clo 121 (.pair (.ptr (.ptr Twork)) .nil)) .nil),tN,[false],F_244 N,false⟩
theorem Z_244(N:Nat):SN 190 (S_244 N):=snd ⟨[((121,[]),S_243 N)],[],[],[],[]⟩ ⟨[(0,⟨[.tmp 8 tI],[5]++rG 9 8++[18],[],[]⟩)],[],[],[]⟩ N ((q7 (Z_243 N) (cb Tryz.func121) q9)) Tryz.func190
def S_245(N:Nat):FnSpec:=⟨.pair (.slice tI) (.pair (.clo 121 (.pair (.ptr (.ptr Twork)) .nil)) .nil),(.pair .bool .nil),[false],F_245 N,false⟩
theorem Z_245(N:Nat):SN 120 (S_245 N):=snd ⟨[((190,[121]),S_244 N)],[],[],[],[]⟩ ⟨[],[],[],[]⟩ N ((q7 (Z_244 N) (cb Tryz.func190) q9)) Tryz.func120
def S_246(N:Nat):FnSpec:=⟨.pair (.ptr Twork) (.pair tI (.pair (.slice tI) .nil)),(.pair .bool .nil),[false],F_246 N,false⟩
theorem Z_246(N:Nat):SN 67 (S_246 N):=snd ⟨[((118,[]),S_210 N),((119,[]),S_242 N),((120,[121]),S_245 N)],[],[],[],[]⟩ ⟨[],[(6,[(3,some (.ptr Twork))])],[],[]⟩ N ((q7 (Z_210 N) K_210 (q7 (Z_242 N) (cb Tryz.func119) (q7 (Z_245 N) (cb Tryz.func120) q9)))) Tryz.func67
def S_247(N:Nat):FnSpec:=⟨.pair (.ptr Twork) (.pair (.slice .str) .nil),(.pair TPath (.pair .bool .nil)),[false,true,false,false],F_247 N,false⟩
theorem KI_65:CB 65:=cb Tryz.func65
noncomputable def I_248:InF:=⟨65,Tryz.f65,⟨[(0,⟨[.tmp 8 tI],[5]++rG 9 8++[18],[],[]⟩)],[],[],[]⟩,[],false⟩
theorem KI_66:CB 66:=cb Tryz.func66
noncomputable def I_249:InF:=⟨66,Tryz.f66,⟨[],[],[],[]⟩,[],false⟩
theorem Z_247(N:Nat):SN 32 (S_247 N):=snd ⟨[((30,[]),q155 N),((64,[]),S_240 N),((67,[]),S_246 N)],[],[I_248,I_249],[],[]⟩ ⟨[(0,⟨[.tmp 15 tI,.var 1 [some tI,none,some tI],.var 2 [some tI],.row 3 tI],[8,9,10,11]++rG 16 9++rG 26 16++[64,12]++rG 42 14++rG 57 7,[],[(1,1,tI),(1,1,tI)]⟩)],[],[],[(0,1,tI)]⟩ N ((q7 (q232 N) q230 (q7 (Z_240 N) (cb Tryz.func64) (q7 (Z_246 N) (cb Tryz.func67) q9)))) Tryz.func32 (hi:=(q169 Tryz.func65 KI_65 (q169 Tryz.func66 KI_66 q439)))
def S_250(N:Nat):FnSpec:=⟨.pair (.ptr Twork) (.pair tI (.pair (.slice tI) .nil)),(.pair (.slice TSpan) .nil),[true],F_250 N,false⟩
theorem K_250:CB 68:=cb Tryz.func68
theorem Z_250(N:Nat):SN 68 (S_250 N):=snd ⟨[((118,[]),S_210 N),((122,[]),S_229 N),((123,[]),S_230 N)],[],[],[],[]⟩ ⟨[(0,⟨[.tmp 31 tI,.var 1 [some tI,some tI],.row 2 TSpan],[12,13,14,28]++rG 32 49,[],[]⟩)],[],[],[]⟩ N ((q7 (Z_210 N) K_210 (q7 (Z_229 N) K_229 (q7 (Z_230 N) K_230 q9)))) Tryz.func68
def S_251(N:Nat):FnSpec:=⟨.pair (.ptr Tview) tN,(.pair .str .nil),[false],F_251 N,false⟩
theorem Z_251(N:Nat):SN 69 (S_251 N):=snd ⟨[((124,[]),S_236 N)],[],[],[],[]⟩ ⟨[],[],[],[]⟩ N ((q7 (Z_236 N) K_236 q9)) Tryz.func69
def S_252(N:Nat):FnSpec:=⟨.pair TSpan tN,tN,[false],F_252 N,false⟩
theorem K_252:CB 35:=cb Tryz.func35
theorem Z_252(N:Nat):SN 35 (S_252 N):=snd ⟨[],[],[],[],[]⟩ ⟨[],[],[],[]⟩ N q9 Tryz.func35
def S_253(N:Nat):FnSpec:=⟨tN,(.pair .str .nil),[false],F_253 N,false⟩
theorem Z_253(N:Nat):SN 125 (S_253 N):=snd ⟨[((194,[]),q159 N)],[],[],[],[]⟩ ⟨[],[],[],[]⟩ N ((q7 (q306 N) q298 q9)) Tryz.func125
def S_254(N:Nat):FnSpec:=⟨tN,(.pair .str .nil),[false],F_254 N,false⟩
theorem Z_254(N:Nat):SN 70 (S_254 N):=snd ⟨[((125,[]),S_253 N),((126,[]),q220 N)],[],[],[],[]⟩ ⟨[],[],[],[]⟩ N ((q7 (Z_253 N) (cb Tryz.func125) (q7 (q402 N) q403 q9))) Tryz.func70
def S_255(N:Nat):FnSpec:=⟨.pair (.ptr Twork) (.pair tI (.pair (.slice tI) tN)),(.pair .str .nil),[false],F_255 N,false⟩
theorem Z_255(N:Nat):SN 33 (S_255 N):=snd ⟨[((35,[]),S_252 N),((68,[]),S_250 N),((69,[]),S_251 N),((70,[]),S_254 N)],[],[],[(0,q39),(1,q62)],[]⟩ ⟨[(0,⟨[.tmp 10 .str,.tmp 44 tI],[11,12,13,14]++rG 45 65,[],[]⟩)],[],[],[]⟩ N ((q7 (Z_252 N) K_252 (q7 (Z_250 N) K_250 (q7 (Z_251 N) (cb Tryz.func69) (q7 (Z_254 N) (cb Tryz.func70) q9))))) Tryz.func33 (ht:=q723)
def S_256(N:Nat):FnSpec:=⟨.pair (.ptr Twork) (.pair tI (.pair (.slice tI) .nil)),(.pair TSpan .nil),[false,false],F_256 N,false⟩
theorem Z_256(N:Nat):SN 34 (S_256 N):=snd ⟨[((68,[]),S_250 N)],[],[],[],[]⟩ ⟨[],[],[],[]⟩ N ((q7 (Z_250 N) K_250 q9)) Tryz.func34
def S_257(N:Nat):FnSpec:=⟨.pair TJob (.pair .str .nil),(.pair TPath (.pair tI tN)),[false,true,false,false,false],F_257 N,false⟩
theorem KI_31:CB 31:=cb Tryz.func31
noncomputable def I_258:InF:=⟨31,Tryz.f31,⟨[(0,⟨[.tmp 8 tI],[5]++rG 9 8++[18],[],[]⟩)],[],[],[]⟩,[],false⟩
theorem Z_257(N:Nat):SN 7 (S_257 N):=snd ⟨[((29,[]),S_235 N),((30,[]),q155 N),((32,[]),S_247 N),((33,[]),S_255 N),((34,[]),S_256 N),((35,[]),S_252 N)],[],[I_258],[(0,q39),(1,q62)],[]⟩ ⟨[],[],[],[(1,1,tI)]⟩ N ((q7 (Z_235 N) (cb Tryz.func29) (q7 (q232 N) q230 (q7 (Z_247 N) (cb Tryz.func32) (q7 (Z_255 N) (cb Tryz.func33) (q7 (Z_256 N) (cb Tryz.func34) (q7 (Z_252 N) K_252 q9))))))) Tryz.func7 (hi:=(q169 Tryz.func31 KI_31 q439)) (ht:=q723)
def S_259(N:Nat):FnSpec:=⟨.pair (.slice tI) (.pair (.slice tI) .nil),(.pair .bool .nil),[false],F_259 N,false⟩
theorem K_259:CB 36:=cb Tryz.func36
theorem Z_259(N:Nat):SN 36 (S_259 N):=snd ⟨[],[],[],[],[]⟩ ⟨[(0,⟨[.tmp 5 tI],rG 11 15,[],[]⟩)],[],[],[]⟩ N q9 Tryz.func36
def S_260(N:Nat):FnSpec:=⟨.pair TPath (.pair TPath .nil),(.pair .bool .nil),[false],F_260 N,false⟩
theorem Z_260(N:Nat):SN 8 (S_260 N):=snd ⟨[((36,[]),S_259 N)],[],[],[],[]⟩ ⟨[],[],[],[]⟩ N ((q7 (Z_259 N) K_259 q9)) Tryz.func8
def S_261(N:Nat):FnSpec:=⟨.pair TPin (.pair TPin .nil),(.pair .bool .nil),[false],F_261 N,false⟩
theorem Z_261(N:Nat):SN 299 (S_261 N):=snd ⟨[],[],[],[],[]⟩ ⟨[],[],[],[]⟩ N q9 Tryz.func299
def S_262(N:Nat):FnSpec:=⟨.pair (.slice TPin) (.pair (.slice TPin) .nil),(.pair .bool .nil),[false],F_262 N,false⟩
theorem Z_262(N:Nat):SN 264 (S_262 N):=snd ⟨[((299,[]),S_261 N)],[],[],[],[]⟩ ⟨[(0,⟨[.tmp 5 tI],rG 11 16,[],[]⟩)],[],[],[]⟩ N ((q7 (Z_261 N) (cb Tryz.func299) q9)) Tryz.func264
def S_263(N:Nat):FnSpec:=⟨.pair TTable (.pair TTable .nil),(.pair .bool .nil),[false],F_263 N,false⟩
theorem Z_263(N:Nat):SN 337 (S_263 N):=snd ⟨[((36,[]),S_259 N)],[],[],[],[]⟩ ⟨[],[],[],[]⟩ N ((q7 (Z_259 N) K_259 q9)) Tryz.func337
def S_264(N:Nat):FnSpec:=⟨.pair (.slice TTable) (.pair (.slice TTable) .nil),(.pair .bool .nil),[false],F_264 N,false⟩
theorem Z_264(N:Nat):SN 321 (S_264 N):=snd ⟨[((337,[]),S_263 N)],[],[],[],[]⟩ ⟨[(0,⟨[.tmp 5 tI],rG 11 16,[],[]⟩)],[],[],[]⟩ N ((q7 (Z_263 N) (cb Tryz.func337) q9)) Tryz.func321
def S_265(N:Nat):FnSpec:=⟨.pair TArc (.pair TArc .nil),(.pair .bool .nil),[false],F_265 N,false⟩
theorem Z_265(N:Nat):SN 300 (S_265 N):=snd ⟨[((321,[]),S_264 N)],[],[],[],[]⟩ ⟨[],[],[],[]⟩ N ((q7 (Z_264 N) (cb Tryz.func321) q9)) Tryz.func300
def S_266(N:Nat):FnSpec:=⟨.pair (.slice TArc) (.pair (.slice TArc) .nil),(.pair .bool .nil),[false],F_266 N,false⟩
theorem Z_266(N:Nat):SN 265 (S_266 N):=snd ⟨[((300,[]),S_265 N)],[],[],[],[]⟩ ⟨[(0,⟨[.tmp 5 tI],rG 11 16,[],[]⟩)],[],[],[]⟩ N ((q7 (Z_265 N) (cb Tryz.func300) q9)) Tryz.func265
def S_267(N:Nat):FnSpec:=⟨.pair TCell (.pair TCell .nil),(.pair .bool .nil),[false],F_267 N,false⟩
theorem Z_267(N:Nat):SN 201 (S_267 N):=snd ⟨[((36,[]),S_259 N),((264,[]),S_262 N),((265,[]),S_266 N)],[],[],[],[]⟩ ⟨[],[],[],[]⟩ N ((q7 (Z_259 N) K_259 (q7 (Z_262 N) (cb Tryz.func264) (q7 (Z_266 N) (cb Tryz.func265) q9)))) Tryz.func201
def S_268(N:Nat):FnSpec:=⟨.pair (.slice TCell) (.pair (.slice TCell) .nil),(.pair .bool .nil),[false],F_268 N,false⟩
theorem Z_268(N:Nat):SN 127 (S_268 N):=snd ⟨[((201,[]),S_267 N)],[],[],[],[]⟩ ⟨[(0,⟨[.tmp 5 tI],rG 11 16,[],[]⟩)],[],[],[]⟩ N ((q7 (Z_267 N) (cb Tryz.func201) q9)) Tryz.func127
def S_269(N:Nat):FnSpec:=⟨.pair TLibrary (.pair TLibrary .nil),(.pair .bool .nil),[false],F_269 N,false⟩
theorem Z_269(N:Nat):SN 71 (S_269 N):=snd ⟨[((127,[]),S_268 N)],[],[],[],[]⟩ ⟨[],[],[],[]⟩ N ((q7 (Z_268 N) (cb Tryz.func127) q9)) Tryz.func71
def S_270(N:Nat):FnSpec:=⟨.pair TInstance (.pair TInstance .nil),(.pair .bool .nil),[false],F_270 N,false⟩
theorem Z_270(N:Nat):SN 202 (S_270 N):=snd ⟨[((36,[]),S_259 N)],[],[],[],[]⟩ ⟨[],[],[],[]⟩ N ((q7 (Z_259 N) K_259 q9)) Tryz.func202
def S_271(N:Nat):FnSpec:=⟨.pair (.slice TInstance) (.pair (.slice TInstance) .nil),(.pair .bool .nil),[false],F_271 N,false⟩
theorem Z_271(N:Nat):SN 128 (S_271 N):=snd ⟨[((202,[]),S_270 N)],[],[],[],[]⟩ ⟨[(0,⟨[.tmp 5 tI],rG 11 16,[],[]⟩)],[],[],[]⟩ N ((q7 (Z_270 N) (cb Tryz.func202) q9)) Tryz.func128
def S_272(N:Nat):FnSpec:=⟨.pair (.slice .str) (.pair (.slice .str) .nil),(.pair .bool .nil),[false],F_272 N,false⟩
theorem Z_272(N:Nat):SN 129 (S_272 N):=snd ⟨[],[],[],[],[]⟩ ⟨[(0,⟨[.tmp 5 tI],rG 11 15,[],[]⟩)],[],[],[]⟩ N q9 Tryz.func129
def S_273(N:Nat):FnSpec:=⟨.pair TPort (.pair TPort .nil),(.pair .bool .nil),[false],F_273 N,false⟩
theorem Z_273(N:Nat):SN 203 (S_273 N):=snd ⟨[],[],[],[],[]⟩ ⟨[],[],[],[]⟩ N q9 Tryz.func203
def S_274(N:Nat):FnSpec:=⟨.pair (.slice TPort) (.pair (.slice TPort) .nil),(.pair .bool .nil),[false],F_274 N,false⟩
theorem Z_274(N:Nat):SN 130 (S_274 N):=snd ⟨[((203,[]),S_273 N)],[],[],[],[]⟩ ⟨[(0,⟨[.tmp 5 tI],rG 11 16,[],[]⟩)],[],[],[]⟩ N ((q7 (Z_273 N) (cb Tryz.func203) q9)) Tryz.func130
def S_275(N:Nat):FnSpec:=⟨.pair TDesign (.pair TDesign .nil),(.pair .bool .nil),[false],F_275 N,false⟩
theorem Z_275(N:Nat):SN 72 (S_275 N):=snd ⟨[((128,[]),S_271 N),((129,[]),S_272 N),((130,[]),S_274 N)],[],[],[],[]⟩ ⟨[],[],[],[]⟩ N ((q7 (Z_271 N) (cb Tryz.func128) (q7 (Z_272 N) (cb Tryz.func129) (q7 (Z_274 N) (cb Tryz.func130) q9)))) Tryz.func72
def S_276(N:Nat):FnSpec:=⟨.pair TWire (.pair TWire .nil),(.pair .bool .nil),[false],F_276 N,false⟩
theorem Z_276(N:Nat):SN 131 (S_276 N):=snd ⟨[((36,[]),S_259 N)],[],[],[],[]⟩ ⟨[],[],[],[]⟩ N ((q7 (Z_259 N) K_259 q9)) Tryz.func131
def S_277(N:Nat):FnSpec:=⟨.pair (.slice TWire) (.pair (.slice TWire) .nil),(.pair .bool .nil),[false],F_277 N,false⟩
theorem Z_277(N:Nat):SN 73 (S_277 N):=snd ⟨[((131,[]),S_276 N)],[],[],[],[]⟩ ⟨[(0,⟨[.tmp 5 tI],rG 11 16,[],[]⟩)],[],[],[]⟩ N ((q7 (Z_276 N) (cb Tryz.func131) q9)) Tryz.func73
def S_278(N:Nat):FnSpec:=⟨.pair TBlock (.pair TBlock .nil),(.pair .bool .nil),[false],F_278 N,false⟩
theorem Z_278(N:Nat):SN 37 (S_278 N):=snd ⟨[((71,[]),S_269 N),((72,[]),S_275 N),((73,[]),S_277 N)],[],[],[],[]⟩ ⟨[],[],[],[]⟩ N ((q7 (Z_269 N) (cb Tryz.func71) (q7 (Z_275 N) (cb Tryz.func72) (q7 (Z_277 N) (cb Tryz.func73) q9)))) Tryz.func37
def S_279(N:Nat):FnSpec:=⟨.pair TCorner (.pair TCorner .nil),(.pair .bool .nil),[false],F_279 N,false⟩
theorem Z_279(N:Nat):SN 38 (S_279 N):=snd ⟨[],[],[],[],[]⟩ ⟨[],[],[],[]⟩ N q9 Tryz.func38
def S_280(N:Nat):FnSpec:=⟨.pair TSpan (.pair TSpan .nil),(.pair .bool .nil),[false],F_280 N,false⟩
theorem Z_280(N:Nat):SN 132 (S_280 N):=snd ⟨[],[],[],[],[]⟩ ⟨[],[],[],[]⟩ N q9 Tryz.func132
def S_281(N:Nat):FnSpec:=⟨.pair TSource (.pair TSource .nil),(.pair .bool .nil),[false],F_281 N,false⟩
theorem Z_281(N:Nat):SN 74 (S_281 N):=snd ⟨[((132,[]),S_280 N)],[],[],[],[]⟩ ⟨[],[],[],[]⟩ N ((q7 (Z_280 N) (cb Tryz.func132) q9)) Tryz.func74
def S_282(N:Nat):FnSpec:=⟨.pair (.slice TSource) (.pair (.slice TSource) .nil),(.pair .bool .nil),[false],F_282 N,false⟩
theorem Z_282(N:Nat):SN 39 (S_282 N):=snd ⟨[((74,[]),S_281 N)],[],[],[],[]⟩ ⟨[(0,⟨[.tmp 5 tI],rG 11 16,[],[]⟩)],[],[],[]⟩ N ((q7 (Z_281 N) (cb Tryz.func74) q9)) Tryz.func39
def S_283(N:Nat):FnSpec:=⟨.pair TJob (.pair TJob .nil),(.pair .bool .nil),[false],F_283 N,false⟩
theorem Z_283(N:Nat):SN 9 (S_283 N):=snd ⟨[((36,[]),S_259 N),((37,[]),S_278 N),((38,[]),S_279 N),((39,[]),S_282 N)],[],[],[],[]⟩ ⟨[],[],[],[]⟩ N ((q7 (Z_259 N) K_259 (q7 (Z_278 N) (cb Tryz.func37) (q7 (Z_279 N) (cb Tryz.func38) (q7 (Z_282 N) (cb Tryz.func39) q9))))) Tryz.func9
def S_284(N:Nat):FnSpec:=⟨tN,(.pair .str .nil),[false],F_284 N,false⟩
def H_284:Hints:=⟨[(0,⟨[.tmp 0 tI,.tmp 3 .str],rG 6 12,[],[]⟩)],[],[],[]⟩
noncomputable def C_284(N:Nat):Ctx:=⟨[],[],[],[],[]⟩
theorem K_284:CB 204:=cb Tryz.func204
theorem ZT_284(N:Nat):Sound Tryz.prog (fun _=>True) 204 (S_284 N):=q398 (C:=C_284 N) (H:=H_284) (N:=N) (q538 (fun _ _ _ _=>trivial) (by kernel_rfl) q9) Tryz.func204 (by kernel_rfl) (fun x r h=>(show pevFn Tryz.prog (C_284 N) N H_284 (S_284 N) Tryz.f204 x=(S_284 N).fn x by kernel_rfl).trans h)
def M_285(N:Nat):MSpec:=⟨(.slice TPin),F_285 N⟩
theorem KM_285:CB 205:=cb Tryz.func205
theorem EM_285(N:Nat)(x:Ty.den (.slice TPin))(k:Int):mevFn Tryz.prog [] [(204,fun k=>obind (F_284 N (k,())) fun r=>some r.1)] N [(0,([1,5],[0]))] (.slice TPin) Tryz.f205 x k=F_285 N x k:=by kernel_rfl
theorem ZM_285(N:Nat):MarkOk Tryz.prog 205 (M_285 N):=q40 (N:=N) (H:=[(0,([1,5],[0]))]) q54 (q199 (q117 (ZT_284 N)) K_284 q60) Tryz.func205 (fun x k n h=>(EM_285 N x k).trans h)
def M_286(N:Nat):MSpec:=⟨(.slice tI),F_286 N⟩
theorem KM_286:CB 41:=cb Tryz.func41
theorem EM_286(N:Nat)(x:Ty.den (.slice tI))(k:Int):mevFn Tryz.prog [] [] N [(0,([1,5],[0]))] (.slice tI) Tryz.f41 x k=F_286 N x k:=by kernel_rfl
theorem ZM_286(N:Nat):MarkOk Tryz.prog 41 (M_286 N):=q40 (N:=N) (H:=[(0,([1,5],[0]))]) q54 q60 Tryz.func41 (fun x k n h=>(EM_286 N x k).trans h)
def M_287(N:Nat):MSpec:=⟨(.slice TTable),F_287 N⟩
theorem KM_287:CB 266:=cb Tryz.func266
theorem EM_287(N:Nat)(x:Ty.den (.slice TTable))(k:Int):mevFn Tryz.prog [(41,M_286 N)] [] N [(0,([1,5],[0]))] (.slice TTable) Tryz.f266 x k=F_287 N x k:=by kernel_rfl
theorem ZM_287(N:Nat):MarkOk Tryz.prog 266 (M_287 N):=q40 (N:=N) (H:=[(0,([1,5],[0]))]) (q33 (ZM_286 N) KM_286 q54) q60 Tryz.func266 (fun x k n h=>(EM_287 N x k).trans h)
def M_288(N:Nat):MSpec:=⟨(.slice TArc),F_288 N⟩
theorem KM_288:CB 206:=cb Tryz.func206
theorem EM_288(N:Nat)(x:Ty.den (.slice TArc))(k:Int):mevFn Tryz.prog [(266,M_287 N)] [] N [(0,([1,5],[0]))] (.slice TArc) Tryz.f206 x k=F_288 N x k:=by kernel_rfl
theorem ZM_288(N:Nat):MarkOk Tryz.prog 206 (M_288 N):=q40 (N:=N) (H:=[(0,([1,5],[0]))]) (q33 (ZM_287 N) KM_287 q54) q60 Tryz.func206 (fun x k n h=>(EM_288 N x k).trans h)
def M_289(N:Nat):MSpec:=⟨(.slice TCell),F_289 N⟩
theorem KM_289:CB 133:=cb Tryz.func133
theorem EM_289(N:Nat)(x:Ty.den (.slice TCell))(k:Int):mevFn Tryz.prog [(41,M_286 N),(205,M_285 N),(206,M_288 N)] [(204,fun k=>obind (F_284 N (k,())) fun r=>some r.1)] N [(0,([1,5],[0]))] (.slice TCell) Tryz.f133 x k=F_289 N x k:=by kernel_rfl
theorem ZM_289(N:Nat):MarkOk Tryz.prog 133 (M_289 N):=q40 (N:=N) (H:=[(0,([1,5],[0]))]) (q33 (ZM_286 N) KM_286 (q33 (ZM_285 N) KM_285 (q33 (ZM_288 N) KM_288 q54))) (q199 (q117 (ZT_284 N)) K_284 q60) Tryz.func133 (fun x k n h=>(EM_289 N x k).trans h)
def M_290(N:Nat):MSpec:=⟨TLibrary,F_290 N⟩
theorem KM_290:CB 75:=cb Tryz.func75
theorem EM_290(N:Nat)(x:Ty.den TLibrary)(k:Int):mevFn Tryz.prog [(133,M_289 N)] [] N [] TLibrary Tryz.f75 x k=F_290 N x k:=by kernel_rfl
theorem ZM_290(N:Nat):MarkOk Tryz.prog 75 (M_290 N):=q40 (N:=N) (H:=[]) (q33 (ZM_289 N) KM_289 q54) q60 Tryz.func75 (fun x k n h=>(EM_290 N x k).trans h)
def M_291(N:Nat):MSpec:=⟨(.slice TInstance),F_291 N⟩
theorem KM_291:CB 134:=cb Tryz.func134
theorem EM_291(N:Nat)(x:Ty.den (.slice TInstance))(k:Int):mevFn Tryz.prog [(41,M_286 N)] [(204,fun k=>obind (F_284 N (k,())) fun r=>some r.1)] N [(0,([1,5],[0]))] (.slice TInstance) Tryz.f134 x k=F_291 N x k:=by kernel_rfl
theorem ZM_291(N:Nat):MarkOk Tryz.prog 134 (M_291 N):=q40 (N:=N) (H:=[(0,([1,5],[0]))]) (q33 (ZM_286 N) KM_286 q54) (q199 (q117 (ZT_284 N)) K_284 q60) Tryz.func134 (fun x k n h=>(EM_291 N x k).trans h)
def M_292(N:Nat):MSpec:=⟨(.slice .str),F_292 N⟩
theorem KM_292:CB 135:=cb Tryz.func135
theorem EM_292(N:Nat)(x:Ty.den (.slice .str))(k:Int):mevFn Tryz.prog [] [(204,fun k=>obind (F_284 N (k,())) fun r=>some r.1)] N [(0,([1,5],[0]))] (.slice .str) Tryz.f135 x k=F_292 N x k:=by kernel_rfl
theorem ZM_292(N:Nat):MarkOk Tryz.prog 135 (M_292 N):=q40 (N:=N) (H:=[(0,([1,5],[0]))]) q54 (q199 (q117 (ZT_284 N)) K_284 q60) Tryz.func135 (fun x k n h=>(EM_292 N x k).trans h)
def M_293(N:Nat):MSpec:=⟨(.slice TPort),F_293 N⟩
theorem KM_293:CB 136:=cb Tryz.func136
theorem EM_293(N:Nat)(x:Ty.den (.slice TPort))(k:Int):mevFn Tryz.prog [] [(204,fun k=>obind (F_284 N (k,())) fun r=>some r.1)] N [(0,([1,5],[0]))] (.slice TPort) Tryz.f136 x k=F_293 N x k:=by kernel_rfl
theorem ZM_293(N:Nat):MarkOk Tryz.prog 136 (M_293 N):=q40 (N:=N) (H:=[(0,([1,5],[0]))]) q54 (q199 (q117 (ZT_284 N)) K_284 q60) Tryz.func136 (fun x k n h=>(EM_293 N x k).trans h)
def M_294(N:Nat):MSpec:=⟨TDesign,F_294 N⟩
theorem KM_294:CB 76:=cb Tryz.func76
theorem EM_294(N:Nat)(x:Ty.den TDesign)(k:Int):mevFn Tryz.prog [(134,M_291 N),(135,M_292 N),(136,M_293 N)] [] N [] TDesign Tryz.f76 x k=F_294 N x k:=by kernel_rfl
theorem ZM_294(N:Nat):MarkOk Tryz.prog 76 (M_294 N):=q40 (N:=N) (H:=[]) (q33 (ZM_291 N) KM_291 (q33 (ZM_292 N) KM_292 (q33 (ZM_293 N) KM_293 q54))) q60 Tryz.func76 (fun x k n h=>(EM_294 N x k).trans h)
def M_295(N:Nat):MSpec:=⟨(.slice TWire),F_295 N⟩
theorem KM_295:CB 77:=cb Tryz.func77
theorem EM_295(N:Nat)(x:Ty.den (.slice TWire))(k:Int):mevFn Tryz.prog [(41,M_286 N)] [] N [(0,([1,5],[0]))] (.slice TWire) Tryz.f77 x k=F_295 N x k:=by kernel_rfl
theorem ZM_295(N:Nat):MarkOk Tryz.prog 77 (M_295 N):=q40 (N:=N) (H:=[(0,([1,5],[0]))]) (q33 (ZM_286 N) KM_286 q54) q60 Tryz.func77 (fun x k n h=>(EM_295 N x k).trans h)
def M_296(N:Nat):MSpec:=⟨TBlock,F_296 N⟩
theorem KM_296:CB 40:=cb Tryz.func40
theorem EM_296(N:Nat)(x:Ty.den TBlock)(k:Int):mevFn Tryz.prog [(75,M_290 N),(76,M_294 N),(77,M_295 N)] [] N [] TBlock Tryz.f40 x k=F_296 N x k:=by kernel_rfl
theorem ZM_296(N:Nat):MarkOk Tryz.prog 40 (M_296 N):=q40 (N:=N) (H:=[]) (q33 (ZM_290 N) KM_290 (q33 (ZM_294 N) KM_294 (q33 (ZM_295 N) KM_295 q54))) q60 Tryz.func40 (fun x k n h=>(EM_296 N x k).trans h)
def M_297(N:Nat):MSpec:=⟨(.slice TSource),F_297 N⟩
theorem KM_297:CB 42:=cb Tryz.func42
theorem EM_297(N:Nat)(x:Ty.den (.slice TSource))(k:Int):mevFn Tryz.prog [] [] N [(0,([1,5],[0]))] (.slice TSource) Tryz.f42 x k=F_297 N x k:=by kernel_rfl
theorem ZM_297(N:Nat):MarkOk Tryz.prog 42 (M_297 N):=q40 (N:=N) (H:=[(0,([1,5],[0]))]) q54 q60 Tryz.func42 (fun x k n h=>(EM_297 N x k).trans h)
def M_298(N:Nat):MSpec:=⟨TJob,F_298 N⟩
theorem KM_298:CB 10:=cb Tryz.func10
theorem EM_298(N:Nat)(x:Ty.den TJob)(k:Int):mevFn Tryz.prog [(40,M_296 N),(41,M_286 N),(42,M_297 N)] [] N [] TJob Tryz.f10 x k=F_298 N x k:=by kernel_rfl
theorem ZM_298(N:Nat):MarkOk Tryz.prog 10 (M_298 N):=q40 (N:=N) (H:=[]) (q33 (ZM_296 N) KM_296 (q33 (ZM_286 N) KM_286 (q33 (ZM_297 N) KM_297 q54))) q60 Tryz.func10 (fun x k n h=>(EM_298 N x k).trans h)
def S_299(N:Nat):FnSpec:=⟨.pair (.slice tI) tN,tN,[false],F_299 N,false⟩
theorem Z_299(N:Nat):SN 43 (S_299 N):=snd ⟨[],[],[],[],[]⟩ ⟨[(0,⟨[.tmp 1 tI,.tmp 5 tI],rG 6 14,[],[]⟩)],[],[],[]⟩ N q9 Tryz.func43
def S_300(N:Nat):FnSpec:=⟨.pair TPath tN,tN,[false],F_300 N,false⟩
theorem Z_300(N:Nat):SN 12 (S_300 N):=snd ⟨[((43,[]),S_299 N)],[],[],[],[]⟩ ⟨[],[],[],[]⟩ N ((q7 (Z_299 N) (cb Tryz.func43) q9)) Tryz.func12
def S_301(N:Nat):FnSpec:=⟨.pair TJob (.pair .str .nil),(.pair .bool .nil),[false],F_301 N,false⟩
theorem KI_11:CB 11:=cb Tryz.func11
noncomputable def I_302:InF:=⟨11,Tryz.f11,⟨[],[],[],[]⟩,[],false⟩
theorem KI_41:CB 41:=cb Tryz.func41
noncomputable def I_303:InF:=⟨41,Tryz.f41,⟨[(0,⟨[.tmp 1 tI,.tmp 5 tI,.row 18 tI],rG 6 12,[],[]⟩)],[],[],[]⟩,[],false⟩
noncomputable def L_301(N:Nat):MarkL:=[(10,M_298 N)]
theorem Z_301(N:Nat):SN 3 (S_301 N):=sndM ⟨[((4,[]),S_21 N),((5,[]),S_119 N),((6,[]),S_45 N),((7,[]),S_257 N),((8,[]),S_260 N),((9,[]),S_283 N),((12,[]),S_300 N)],[],[I_302,I_303],[],[]⟩ (L_301 N) ⟨[],[],[],[]⟩ N ((q7 (Z_21 N) (cb Tryz.func4) (q7 (Z_119 N) (cb Tryz.func5) (q7 (Z_45 N) (cb Tryz.func6) (q7 (Z_257 N) (cb Tryz.func7) (q7 (Z_260 N) (cb Tryz.func8) (q7 (Z_283 N) (cb Tryz.func9) (q7 (Z_300 N) (cb Tryz.func12) q9)))))))) ((q33 (ZM_298 N) KM_298 q54)) Tryz.func3 (hi:=(q169 Tryz.func11 KI_11 (q169 Tryz.func41 KI_41 q439)))
end Go.Proofs.YtlmfklfjmalanaaGreatDoor
