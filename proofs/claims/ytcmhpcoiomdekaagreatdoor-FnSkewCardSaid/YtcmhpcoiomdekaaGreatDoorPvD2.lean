/- The functions' contracts. Printed by my dec.py. No condition of its own. -/
import Derived.Test.YtcmhpcoiomdekaaGreatDoorPvD1
namespace Go.Proofs.YtcmhpcoiomdekaaGreatDoor
open Go.RowKit
set_option maxRecDepth 100000
set_option linter.unusedVariables false
noncomputable section
variable (N:Nat)
def c59:Ct:=ct ⟨(.pair TBlock (.pair TCorner (.pair (.slice TLink) (.pair (.slice .bool) (.pair (.slice TSource) (.pair TTiming tN)))))),(.pair .bool (.pair TSource .nil)),(rF 6),F_103 N,false⟩ [] ⟨[(0,⟨[.tmp 16 .bool,.tmp 18 tI,.var 4 [some tI,some tI,some tI,some tI,some tI]],rG 25 17,[],[],[]⟩),(2,⟨[.tmp 19 tI,.tmp 16 .bool,.var 4 [some tI,some tI,some tI,some tI,some tI]],[20]++rG 42 16++[62,63,71,58,59,60,61]++rG 64 7++[21,22,23]++rG 72 47,[],[],[]⟩)],[],[],[]⟩ [c58 N,c57 N] N Tryz.func135
def c60:Ct:=ct ⟨(.pair TBlock (.pair TCorner (.pair (.slice TLink) (.pair (.slice .bool) (.pair (.slice TSource) (.pair (.slice tI) .nil)))))),(.pair TTiming (.pair .bool .nil)),[true,true,true,false],F_104 N,false⟩ [] ⟨[(0,⟨[.tmp 15 tI,.row 3 .bool,.row 4 TSpan,.row 5 TSpan],[16,17,18]++rG 22 27++rG 50 16,[],[],[]⟩)],[],[],[(2,0,.bool),(2,1,TSpan),(2,2,TSpan)]⟩ [c28 N,c42 N,c36 N,c59 N] N Tryz.func66
def c61:Ct:=ct ⟨(.pair TBlock (.pair TCorner (.pair (.slice tI) (.pair (.slice TSource) .nil)))),(.pair TTiming tN),[true,true,true,false],F_105 N,false⟩ [] ⟨[],[],[],[(2,0,.bool),(2,1,TSpan),(2,2,TSpan)]⟩ [c41 N,c25 N,c60 N,c27 N] N Tryz.func22
def c62:Ct:=ct ⟨(.pair TJob .nil),(.pair (.ptr Tl20Work) tN),[false,false],F_106 N,false⟩ [] hnn [c61 N,c25 N,c27 N] N Tryz.func146
def S_23(N:Nat):VioSpec:=⟨Tl01Source,(.pair TJob .nil),tN,[],fun v x=>F_23 N (v,x),false⟩
theorem Z_23(N:Nat):VioOk Tryz.prog 138 (S_23 N):=sndV ⟨es [c28 N,c62 N],[],[],[],[(40,.vio (S_0 N))]⟩ ⟨[(0,⟨[.tmp 8 tI,.tmp 9 tI,.var 0 [some (.slice (.int .u8)),some tI,some tI]],[10]++rG 24 31,[],[],[]⟩)],[],[],[]⟩ N (ce _) ((q21 (Z_0 N) K_0 q49)) Tryz.func138
def S_24(N:Nat):FnSpec:=⟨.pair (.slice (.int .u8)) .nil,(.pair TJob (.pair tI tN)),(rF 14),F_24 N,false⟩
theorem KI_39:CB 39:=cb Tryz.func39
def I_25:InF:=⟨39,Tryz.f39,⟨[(0,⟨[.tmp 4 tI,.var 2 [some (.slice (.int .u8)),some tI,some tI]],rG 8 25,[],[],[]⟩)],[],[],[]⟩,[],false⟩
theorem Z_24(N:Nat):SN 68 (S_24 N):=sndX ⟨[],[],[I_25],[],[(137,.vio (S_22 N)),(138,.vio (S_23 N))]⟩ ⟨[],[],[],[]⟩ N (q81) ((q21 (Z_22 N) (cb Tryz.func137) (q21 (Z_23 N) (cb Tryz.func138) q49))) Tryz.func68 (hi:=(q101 Tryz.func39 KI_39 q323))
def c63:Ct:=⟨(68,[]),S_24 N,Z_24 N,(cb Tryz.func68)⟩
def c64:Ct:=ct ⟨(.pair (.slice (.int .u8)) .nil),(.pair TJob (.pair tI tN)),(rF 14),F_107 N,false⟩ [] hnn [c63 N] N Tryz.func23
def c65:Ct:=ctB (.pair tI (.pair tI tN)) (.pair .bool .nil) (F_108 N) [] N Tryz.func119
def c66:Ct:=⟨(125,[]),q246 N,q439 N,q444⟩
def c67:Ct:=⟨(126,[]),q146 N,q262 N,q278⟩
def c68:Ct:=ctB (.pair .str .nil) (.pair .bool .nil) (F_109 N) [c65 N,c66 N,c67 N] N Tryz.func61
def c69:Ct:=ctB (.pair (.slice TPin) .nil) tN (F_110 N) [] N Tryz.func324
def c70:Ct:=ctA (.pair (.slice .str) (.pair .str .nil)) tN (F_111 N) ⟨[(0,⟨[.tmp 8 tI],[5]++rG 9 8++[18],[],[],[]⟩)],[],[],[]⟩ [] N Tryz.func91
def c71:Ct:=ctB (.pair (.slice .str) (.pair .str .nil)) (.pair .bool .nil) (F_112 N) [c70 N] N Tryz.func188
def c72:Ct:=ctA (.pair (.slice .str) .nil) (.pair .bool .nil) (F_113 N) ⟨[(0,⟨[.tmp 7 tI],[3,4]++rG 8 15,[],[],[]⟩)],[],[],[]⟩ [c68 N,c71 N] N Tryz.func121
def c73:Ct:=ctA (.pair (.slice TPin) .nil) (.pair .bool .nil) (F_114 N) ⟨[(0,⟨[.tmp 8 tI,.row 0 .str],[4,5]++rG 9 26++[44]++rG 35 9,[(3,.str),(3,.str)],[],[]⟩)],[],[],[]⟩ [c65 N,c72 N,c69 N] N Tryz.func297
def c74:Ct:=ctB tN (.pair .bool .nil) (F_115 N) [] N Tryz.func345
def c75:Ct:=ctB (.pair (.slice tI) .nil) tN (F_116 N) [] N Tryz.func167
def c76:Ct:=ctB (.pair tI (.pair (.ptr tI) (.pair (.ptr tI) .nil))) (.pair .bool .nil) (F_117 N) [c65 N] N Tryz.func212
def c77:Ct:=ct ⟨(.pair (.slice tI) (.pair (.clo 212 (.pair (.ptr tI) (.pair (.ptr tI) .nil))) .nil)),tN,[false],F_118 N,false⟩ [212] ⟨[(0,⟨[.tmp 8 tI],[5]++rG 9 8++[18],[],[],[]⟩)],[],[],[]⟩ [c76 N] N Tryz.func267
def c78:Ct:=ct ⟨(.pair (.slice tI) (.pair (.clo 212 (.pair (.ptr tI) (.pair (.ptr tI) .nil))) .nil)),(.pair .bool .nil),[false],F_119 N,false⟩ [212] hnn [c77 N] N Tryz.func211
def c79:Ct:=ctA (.pair (.slice tI) (.pair tI tN)) (.pair .bool .nil) (F_120 N) ⟨[],[(1,[(4,some tI),(5,some tI)])],[],[]⟩ [c78 N] N Tryz.func144
def c80:Ct:=ctA (.pair (.slice tI) .nil) (.pair .bool .nil) (F_121 N) ⟨[(0,⟨[.tmp 3 tI],rG 4 16,[],[],[]⟩)],[],[],[]⟩ [] N Tryz.func252
def c81:Ct:=ctB (.pair (.slice tI) .nil) (.pair .bool .nil) (F_122 N) [c65 N,c79 N,c75 N,c80 N] N Tryz.func371
def c82:Ct:=ctB (.pair TTable .nil) (.pair .bool .nil) (F_123 N) [c79 N,c81 N] N Tryz.func363
def c83:Ct:=ctA (.pair (.slice tI) .nil) tN (F_124 N) ⟨[(0,⟨[.tmp 3 tI,.tmp 4 tI],rG 12 12,[],[],[]⟩)],[],[],[]⟩ [] N Tryz.func364
def c84:Ct:=ctB (.pair TTable (.pair (.ptr .bool) .nil)) (.pair .bool .nil) (F_125 N) [c82 N,c83 N] N Tryz.func362
def c85:Ct:=ct ⟨(.pair (.slice TTable) (.pair (.clo 362 (.pair (.ptr .bool) .nil)) .nil)),tN,[false],F_126 N,false⟩ [362] ⟨[(0,⟨[.tmp 8 tI],[5]++rG 9 8++[18],[],[],[]⟩)],[],[],[]⟩ [c84 N] N Tryz.func370
def c86:Ct:=ct ⟨(.pair (.slice TTable) (.pair (.clo 362 (.pair (.ptr .bool) .nil)) .nil)),(.pair .bool .nil),[false],F_127 N,false⟩ [362] hnn [c85 N] N Tryz.func361
def c87:Ct:=ctA (.pair (.slice TTable) (.pair .bool .nil)) (.pair .bool .nil) (F_128 N) ⟨[],[(1,[(3,some .bool)])],[],[]⟩ [c86 N] N Tryz.func346
def c88:Ct:=ctB (.pair TPin .nil) (.pair .bool .nil) (F_129 N) [] N Tryz.func366
def c89:Ct:=ct ⟨(.pair (.slice TPin) (.pair (.clo 366 .nil) .nil)),tN,[false],F_130 N,false⟩ [366] ⟨[(0,⟨[.tmp 8 tI],[5]++rG 9 8++[18],[],[],[]⟩)],[],[],[]⟩ [c88 N] N Tryz.func365
def c90:Ct:=ctB (.pair TCell .nil) tN (F_131 N) [c89 N] N Tryz.func347
def c91:Ct:=ctB (.pair TCell .nil) tN (F_132 N) [c69 N] N Tryz.func328
def c92:Ct:=ctB (.pair TCell tN) (.pair .bool .nil) (F_133 N) [c65 N,c91 N] N Tryz.func348
def c93:Ct:=ctB (.pair TCell (.pair TArc .nil)) (.pair .bool .nil) (F_134 N) [c65 N,c91 N,c74 N,c87 N,c90 N,c92 N] N Tryz.func325
def c94:Ct:=ctB (.pair TArc (.pair (.ptr TArc) .nil)) (.pair .bool .nil) (F_135 N) [] N Tryz.func327
def c95:Ct:=ct ⟨(.pair (.slice TArc) (.pair (.clo 327 (.pair (.ptr TArc) .nil)) .nil)),tN,[false],F_136 N,false⟩ [327] ⟨[(0,⟨[.tmp 8 tI],[5]++rG 9 8++[18],[],[],[]⟩)],[],[],[]⟩ [c94 N] N Tryz.func349
def c96:Ct:=ct ⟨(.pair (.slice TArc) (.pair (.clo 327 (.pair (.ptr TArc) .nil)) .nil)),(.pair .bool .nil),[false],F_137 N,false⟩ [327] hnn [c95 N] N Tryz.func326
def c97:Ct:=ctA (.pair TCell .nil) (.pair .bool .nil) (F_138 N) ⟨[(0,⟨[.tmp 8 tI],[3,4]++rG 9 17,[],[],[]⟩)],[(4,[(4,some TArc)])],[],[]⟩ [c93 N,c96 N] N Tryz.func298
def c98:Ct:=ctB (.pair TArc (.pair (.ptr tI) .nil)) (.pair .bool .nil) (F_139 N) [] N Tryz.func350
def c99:Ct:=ct ⟨(.pair (.slice TArc) (.pair (.clo 350 (.pair (.ptr tI) .nil)) .nil)),tN,[false],F_140 N,false⟩ [350] ⟨[(0,⟨[.tmp 8 tI],[5]++rG 9 8++[18],[],[],[]⟩)],[],[],[]⟩ [c98 N] N Tryz.func349
def c100:Ct:=ct ⟨(.pair (.slice TArc) (.pair (.clo 350 (.pair (.ptr tI) .nil)) .nil)),(.pair .bool .nil),[false],F_141 N,false⟩ [350] hnn [c99 N] N Tryz.func326
def c101:Ct:=ctA (.pair TCell tN) (.pair .bool .nil) (F_142 N) ⟨[],[(1,[(3,some tI)])],[],[]⟩ [c100 N] N Tryz.func329
def c102:Ct:=ctA (.pair TCell .nil) (.pair .bool .nil) (F_143 N) ⟨[(0,⟨[.tmp 3 tI,.tmp 9 tI],[5]++rG 10 8,[],[],[]⟩)],[],[],[]⟩ [c79 N,c91 N,c101 N] N Tryz.func299
def c103:Ct:=ctB (.pair TCell .nil) (.pair .bool .nil) (F_144 N) [c68 N,c65 N,c73 N,c97 N,c102 N] N Tryz.func246
def c104:Ct:=ctA (.pair TLibrary .nil) (.pair .bool .nil) (F_145 N) ⟨[(0,⟨[.tmp 9 tI,.row 1 .str],[5]++rG 10 12,[(3,.str)],[],[]⟩)],[],[],[]⟩ [c72 N,c103 N] N Tryz.func181
def c105:Ct:=ctA (.pair TDesign .nil) (.pair .bool .nil) (F_146 N) ⟨[(0,⟨[.tmp 12 tI,.row 1 .str],[6]++rG 13 9,[(3,.str)],[],[]⟩),(2,⟨[.tmp 25 tI,.row 2 .str],[8]++rG 26 9,[(4,.str)],[],[]⟩)],[],[],[]⟩ [c72 N] N Tryz.func182
def c106:Ct:=ctB (.pair (.slice TCell) .nil) tN (F_147 N) [] N Tryz.func247
def c107:Ct:=ctB (.pair (.slice .str) .nil) tN (F_148 N) [] N Tryz.func249
def c108:Ct:=ctB (.pair TDesign tN) (.pair .bool .nil) (F_149 N) [c65 N,c107 N] N Tryz.func184
def c109:Ct:=ctB (.pair tI (.pair (.ptr TDesign) .nil)) (.pair .bool .nil) (F_150 N) [c108 N] N Tryz.func248
def c110:Ct:=ct ⟨(.pair (.slice tI) (.pair (.clo 248 (.pair (.ptr TDesign) .nil)) .nil)),tN,[false],F_151 N,false⟩ [248] ⟨[(0,⟨[.tmp 8 tI],[5]++rG 9 8++[18],[],[],[]⟩)],[],[],[]⟩ [c109 N] N Tryz.func267
def c111:Ct:=ct ⟨(.pair (.slice tI) (.pair (.clo 248 (.pair (.ptr TDesign) .nil)) .nil)),(.pair .bool .nil),[false],F_152 N,false⟩ [248] hnn [c110 N] N Tryz.func211
def c112:Ct:=ctA (.pair TDesign (.pair TLibrary (.pair TInstance .nil))) (.pair .bool .nil) (F_153 N) ⟨[],[(1,[(3,some TDesign)])],[],[]⟩ [c65 N,c111 N,c106 N] N Tryz.func183
def c113:Ct:=ctB tN (.pair .bool .nil) (F_154 N) [] N Tryz.func186
def c114:Ct:=ct ⟨(.pair (.slice tI) (.pair (.clo 186 .nil) .nil)),tN,[false],F_155 N,false⟩ [186] ⟨[(0,⟨[.tmp 8 tI],[5]++rG 9 8++[18],[],[],[]⟩)],[],[],[]⟩ [c113 N] N Tryz.func250
def c115:Ct:=ct ⟨(.pair (.slice tI) (.pair (.clo 186 .nil) .nil)),(.pair .bool .nil),[false],F_156 N,false⟩ [186] hnn [c114 N] N Tryz.func185
def c116:Ct:=ctA (.pair TLibrary (.pair TDesign .nil)) (.pair .bool .nil) (F_157 N) ⟨[(0,⟨[.tmp 25 tI,.row 2 tI],[7]++rG 26 22,[],[],[]⟩),(2,⟨[.tmp 51 tI,.row 2 tI],[9]++rG 52 29,[],[],[]⟩)],[],[],[]⟩ [c104 N,c105 N,c112 N,c108 N,c115 N] N Tryz.func116
def c117:Ct:=ct ⟨(.pair TDesign .nil),(.pair (.slice Tl05Place) .nil),[true],F_158 N,false⟩ [] ⟨[(0,⟨[.tmp 13 tI,.row 1 Tl05Place],[4,5,6,7]++rG 14 27,[(3,Tl05Place)],[],[]⟩),(2,⟨[.tmp 21 tI,.row 1 Tl05Place],[],[],[],[]⟩),(4,⟨[.tmp 44 tI,.row 1 Tl05Place],[8,9]++rG 45 15,[],[],[]⟩)],[],[],[]⟩ [] N Tryz.func117
def c118:Ct:=ctA (.pair TWire .nil) (.pair .bool .nil) (F_159 N) ⟨[(0,⟨[.tmp 8 tI],[3,4]++rG 9 29,[],[],[]⟩)],[],[],[]⟩ [c65 N] N Tryz.func187
def c119:Ct:=ctB (.pair TWire tN) (.pair .bool .nil) (F_160 N) [c65 N,c79 N,c75 N,c118 N] N Tryz.func118
def c120:Ct:=ctA (.pair TBlock .nil) (.pair .bool .nil) (F_161 N) ⟨[(0,⟨[.tmp 32 tI,.row 1 tI],[5]++rG 33 14,[],[],[]⟩),(2,⟨[.tmp 50 tI],[6,7]++rG 51 12,[],[],[]⟩)],[],[],[]⟩ [c116 N,c117 N,c119 N] N Tryz.func56
def c121:Ct:=ctB (.pair tI tN) (.pair .bool .nil) (F_162 N) [] N Tryz.func127
def c122:Ct:=ctB (.pair TCorner .nil) (.pair .bool .nil) (F_163 N) [c68 N,c121 N] N Tryz.func62
def c123:Ct:=ct ⟨(.pair TArc .nil),(.pair (.slice TSpan) .nil),[true],F_164 N,false⟩ [] ⟨[],[],[(2,TSpan)],[]⟩ [] N Tryz.func232
def c124:Ct:=ct ⟨(.pair TBlock (.pair TInstance tN)),(.pair (.slice TLink) .nil),[true],F_165 N,false⟩ [] ⟨[(0,⟨[.tmp 21 tI,.row 2 TLink],[8,9,11]++rG 22 34,[(7,TLink)],[],[]⟩),(2,⟨[.tmp 29 tI,.row 2 TLink],[],[],[],[]⟩)],[],[],[]⟩ [c123 N] N Tryz.func166
def S_26(N:Nat):FnSpec:=⟨.pair (.slice tI) .nil,(.pair (.slice tI) .nil),[true],F_26 N,false⟩
def H_26:Hints:=⟨[],[],[(2,tI)],[]⟩
def C_26(N:Nat):Ctx:=⟨[],[],[],[],[]⟩
theorem K_26:CB 209:=cb Tryz.func209
theorem E_26(N:Nat)(xs:List (Ty.den tI)):pevFnW Tryz.prog (C_26 N) N H_26 (S_26 N) Tryz.f209 [.one (.sln tI xs)]=F_26 N (xs,()):=by kernel_rfl
theorem E0_26(N:Nat):pevFnW Tryz.prog (C_26 N) N H_26 (S_26 N) Tryz.f209 [.one (.slz tI)]=F_26 N ([],()):=by kernel_rfl
theorem Z_26(N:Nat):Sound Tryz.prog PRE 209 (S_26 N):=q369 (C:=C_26 N) (H:=H_26) (N:=N) (e:=tI) (rs:=(.pair (.slice tI) .nil)) (own:=[true]) (F:=F_26 N) (q423 q408 (by kernel_rfl) q81) Tryz.func209 (fun xs r h=>(E_26 N xs).trans h) (fun r h=>(E0_26 N).trans h)
def c125:Ct:=⟨(209,[]),S_26 N,Z_26 N,K_26⟩
def c126:Ct:=ct ⟨(.pair TDesign tN),(.pair (.slice tI) .nil),[true],F_166 N,false⟩ [] ⟨[(0,⟨[.tmp 11 tI,.row 2 tI],[6,7]++rG 12 18,[(5,tI)],[],[]⟩)],[],[],[]⟩ [c117 N] N Tryz.func233
def c127:Ct:=ctB (.pair TDesign (.pair TLibrary (.pair Tl05Place .nil))) tN (F_167 N) [] N Tryz.func234
def c128:Ct:=ct ⟨(.pair TBlock tN),(.pair (.slice tI) .nil),[true],F_168 N,false⟩ [] ⟨[(0,⟨[.tmp 27 tI,.row 2 tI],[8,9]++rG 28 24,[],[],[]⟩),(2,⟨[.tmp 10 tI,.row 2 tI],rG 55 18,[],[],[]⟩)],[],[],[]⟩ [c117 N,c125 N,c126 N,c127 N] N Tryz.func168
def c129:Ct:=ct ⟨(.pair TBlock tN),(.pair (.slice tI) .nil),[true],F_169 N,false⟩ [] ⟨[(0,⟨[.tmp 8 tI,.row 3 tI],rG 20 28,[],[],[]⟩)],[],[],[]⟩ [c128 N] N Tryz.func235
def c130:Ct:=ct ⟨(.pair TBlock tN),(.pair (.slice tI) .nil),[true],F_170 N,false⟩ [] ⟨[(0,⟨[.tmp 19 tI,.row 2 tI],[8]++rG 20 11,[(6,tI)],[],[]⟩)],[],[],[]⟩ [c129 N] N Tryz.func169
def S_27(N:Nat):FnSpec:=⟨.pair TBlock .nil,(.pair (.ptr Tview) .nil),[false],F_27 N,false⟩
theorem Z_27(N:Nat):SN 100 (S_27 N):=snd ⟨es [c117 N,c124 N,c75 N,c128 N,c130 N],[54,112],[],[],[]⟩ ⟨[(0,⟨[.tmp 4 tI,.tmp 25 tI,.var 2 [some (.slice TCell),some (.slice TInstance),some (.slice .str),some (.slice TPort),some (.slice TWire),none,none,none,none,none],.row 3 TLink],[6]++rG 26 21,[],[(2,6,TLink)],[]⟩),(2,⟨[.tmp 60 tI,.row 4 tI,.tree 5 tI],[9,10]++rG 61 11++[84]++rG 72 12,[],[],[]⟩),(4,⟨[.tmp 88 tI,.var 2 [some (.slice TCell),some (.slice TInstance),some (.slice .str),some (.slice TPort),some (.slice TWire),none,none,none,none,none],.row 3 TLink,.row 6 tI,.row 7 (.slice tI)],[11,12,13,14]++rG 89 66,[],[(2,7,tI),(2,8,(.slice tI))],[]⟩),(6,⟨[.tmp 122 tI,.var 2 [some (.slice TCell),some (.slice TInstance),some (.slice .str),some (.slice TPort),some (.slice TWire),none,none,none,none,none],.row 3 TLink],[],[],[],[]⟩),(8,⟨[.tmp 127 tI,.var 2 [some (.slice TCell),some (.slice TInstance),some (.slice .str),some (.slice TPort),some (.slice TWire),none,none,none,none,none],.row 3 TLink],[],[],[],[]⟩)],[(1000004,[(8,none)])],[],[]⟩ N (ce _) Tryz.func100
def c131:Ct:=⟨(100,[]),S_27 N,Z_27 N,(cb Tryz.func100)⟩
def c132:Ct:=ctB (.pair (.slice Tl05Place) .nil) tN (F_171 N) [] N Tryz.func213
def c133:Ct:=ctB (.pair (.ptr Tview) .nil) tN (F_172 N) [c132 N] N Tryz.func145
def c134:Ct:=ctB (.pair (.slice .bool) .nil) tN (F_173 N) [] N Tryz.func236
def c135:Ct:=ctB (.pair (.slice TSpan) .nil) tN (F_174 N) [] N Tryz.func237
def c136:Ct:=ctB tN (.pair .bool .nil) (F_175 N) [c65 N] N Tryz.func258
def c137:Ct:=ctB (.pair TSpan .nil) (.pair .bool .nil) (F_176 N) [c136 N] N Tryz.func195
def c138:Ct:=ctB tN (.pair .bool .nil) (F_177 N) [c65 N] N Tryz.func291
def c139:Ct:=ctB (.pair TSpan .nil) (.pair .bool .nil) (F_178 N) [c137 N,c138 N] N Tryz.func238
def c140:Ct:=ctA (.pair (.ptr Tview) (.pair TTiming .nil)) (.pair .bool .nil) (F_179 N) ⟨[(0,⟨[.tmp 32 tI],[6,7]++rG 33 43,[],[],[]⟩)],[],[],[]⟩ [c133 N,c137 N,c134 N,c135 N,c139 N] N Tryz.func170
def c141:Ct:=ctB (.pair (.slice TLink) .nil) tN (F_180 N) [] N Tryz.func251
def c142:Ct:=ctB (.pair (.ptr Tview) (.pair (.slice tI) .nil)) (.pair .bool .nil) (F_181 N) [c79 N,c141 N,c80 N] N Tryz.func189
def c143:Ct:=ctB (.pair (.ptr Tview) tN) (.pair .bool .nil) (F_182 N) [c65 N,c133 N] N Tryz.func95
def c144:Ct:=ctA (.pair (.ptr Tview) (.pair (.slice TSource) .nil)) (.pair .bool .nil) (F_183 N) ⟨[(0,⟨[.tmp 9 tI],[5,6]++rG 10 37,[],[],[]⟩)],[],[],[]⟩ [c143 N,c137 N,c139 N] N Tryz.func190
def c145:Ct:=ctA (.pair (.ptr Tview) (.pair (.slice tI) .nil)) (.pair (.ptr Tgraph) .nil) (F_184 N) ⟨[(0,⟨[.tmp 23 tI,.row 0 .bool],[6]++rG 24 9,[],[],[]⟩),(2,⟨[.tmp 35 tI,.row 0 .bool],[8]++rG 36 10,[],[],[]⟩)],[],[],[]⟩ [] N Tryz.func191
def c146:Ct:=ctB (.pair TLink .nil) (.pair .bool .nil) (F_185 N) [] N Tryz.func254
def c147:Ct:=ct ⟨(.pair (.ptr Tgraph) (.pair (.clo 254 .nil) .nil)),(.pair (.slice tI) .nil),[true],F_186 N,false⟩ [254] ⟨[(0,⟨[.tmp 16 tI,.row 0 tI],[6,7]++rG 17 21,[(5,tI)],[],[]⟩)],[],[],[]⟩ [c146 N] N Tryz.func253
def c148:Ct:=ctA (.pair (.slice tI) tN) tN (F_187 N) ⟨[(0,⟨[.tmp 8 tI],[5]++rG 9 8++[18],[],[],[]⟩)],[],[],[]⟩ [] N Tryz.func255
def c149:Ct:=ctB (.pair TLink (.pair (.ptr tI) .nil)) (.pair .bool .nil) (F_188 N) [] N Tryz.func300
def c150:Ct:=ct ⟨(.pair (.ptr Tgraph) (.pair (.clo 300 (.pair (.ptr tI) .nil)) .nil)),(.pair (.slice tI) .nil),[true],F_189 N,false⟩ [300] ⟨[(0,⟨[.tmp 16 tI,.row 0 tI],[6,7]++rG 17 21,[(5,tI)],[],[]⟩)],[],[],[]⟩ [c149 N] N Tryz.func253
def c151:Ct:=ct ⟨(.pair (.ptr Tgraph) tN),(.pair (.slice tI) .nil),[true],F_190 N,false⟩ [] ⟨[],[(1,[(3,some tI)])],[],[]⟩ [c150 N] N Tryz.func256
def c152:Ct:=ct ⟨(.pair (.ptr Tgraph) .nil),(.pair (.slice tI) (.pair .bool .nil)),[true,false],F_191 N,false⟩ [] ⟨[(0,⟨[.tmp 20 tI,.row 0 tI],[6]++rG 21 20,[],[],[]⟩),(2,⟨[.tmp 43 tI,.row 0 tI,.row 2 tI],[8,10]++rG 44 38,[(7,tI)],[],[]⟩),(4,⟨[.tmp 60 tI,.row 0 tI],[],[],[],[]⟩)],[],[(2,tI)],[]⟩ [c133 N,c147 N,c148 N,c151 N] N Tryz.func192
def c153:Ct:=ct ⟨(.pair TBlock (.pair TCorner (.pair (.slice tI) (.pair (.slice TSource) (.pair (.ptr TTiming) .nil))))),(.pair (.ptr Tgraph) (.pair (.slice tI) tN)),[false,true,false],F_192 N,false⟩ [] ⟨[],[],[(11,tI)],[]⟩ [c120 N,c122 N,c131 N,c140 N,c142 N,c144 N,c145 N,c152 N] N Tryz.func122
def c154:Ct:=ct ⟨(.pair (.ptr Tview) .nil),(.pair TTiming .nil),[true,true,true],F_193 N,false⟩ [] hnn [c133 N] N Tryz.func193
def c155:Ct:=ctB (.pair TSource (.pair (.ptr tI) .nil)) (.pair .bool .nil) (F_194 N) [] N Tryz.func218
def c156:Ct:=ct ⟨(.pair (.slice TSource) (.pair (.clo 218 (.pair (.ptr tI) .nil)) .nil)),tN,[false],F_195 N,false⟩ [218] ⟨[(0,⟨[.tmp 8 tI],[5]++rG 9 8++[18],[],[],[]⟩)],[],[],[]⟩ [c155 N] N Tryz.func217
def c157:Ct:=ct ⟨(.pair (.slice TSource) tN),(.pair TSource (.pair .bool .nil)),(rF 6),F_28 N,false⟩ [] ⟨[],[(1,[(3,some tI)])],[],[]⟩ [c156 N] N Tryz.func152
def c158:Ct:=ctB (.pair TLink (.pair (.ptr tI) .nil)) (.pair .bool .nil) (F_196 N) [] N Tryz.func266
def c159:Ct:=ct ⟨(.pair (.ptr Tgraph) (.pair (.clo 266 (.pair (.ptr tI) .nil)) .nil)),(.pair (.slice tI) .nil),[true],F_197 N,false⟩ [266] ⟨[(0,⟨[.tmp 16 tI,.row 0 tI],[6,7]++rG 17 21,[(5,tI)],[],[]⟩)],[],[],[]⟩ [c158 N] N Tryz.func253
def c160:Ct:=ct ⟨(.pair (.ptr Tgraph) tN),(.pair (.slice tI) .nil),[true],F_29 N,false⟩ [] ⟨[],[(1,[(3,some tI)])],[],[]⟩ [c159 N] N Tryz.func207
def c161:Ct:=ctB (.pair (.ptr Tview) (.pair TLink .nil)) tN (F_198 N) [] N Tryz.func220
def c162:Ct:=ct ⟨(.pair (.ptr Tview) (.pair TLink .nil)),(.pair TArc .nil),(rF 6),F_199 N,false⟩ [] hnn [] N Tryz.func270
def c163:Ct:=ctB tN (.pair .bool .nil) (F_200 N) [] N Tryz.func165
def c164:Ct:=ctB (.pair tI tN) (.pair .bool .nil) (F_201 N) [c163 N] N Tryz.func352
def c165:Ct:=ctB tN (.pair .bool .nil) (F_202 N) [] N Tryz.func353
def c166:Ct:=ct ⟨(.pair (.slice tI) tN),(.pair tI (.pair .bool .nil)),[false,false],F_203 N,false⟩ [] ⟨[(0,⟨[.tmp 7 tI,.tmp 8 tI],[9]++rG 13 18,[],[],[]⟩)],[],[],[]⟩ [c164 N,c165 N] N Tryz.func335
def c167:Ct:=ct ⟨(.pair (.slice tI) tN),(.pair (.slice TSpan) tN),[true,false],F_204 N,false⟩ [] hnn [c166 N] N Tryz.func311
def c168:Ct:=ctB (.pair tI (.pair tI tN)) tN (F_205 N) [] N Tryz.func272
def c169:Ct:=ctA (.pair TTable (.pair tI (.pair tI tN))) tN (F_206 N) ⟨[(0,⟨[.tmp 13 tI,.tmp 34 tI],[15,17]++rG 35 32,[],[],[]⟩),(2,⟨[.tmp 13 tI,.tmp 40 tI],[],[],[],[]⟩)],[],[],[]⟩ [c168 N,c167 N] N Tryz.func271
def c170:Ct:=ctB (.pair TCorner (.pair tI tN)) tN (F_207 N) [] N Tryz.func274
def c171:Ct:=ctB (.pair tI (.pair tI tN)) tN (F_208 N) [c168 N] N Tryz.func273
def c172:Ct:=ctB (.pair (.ptr Tview) (.pair TCorner (.pair tI (.pair tI tN)))) tN (F_209 N) [c161 N,c162 N,c169 N,c168 N,c171 N,c170 N] N Tryz.func219
def c173:Ct:=ctA tN tN (F_210 N) ⟨[(0,⟨[.tmp 3 tI,.tmp 4 tI],rG 5 17,[],[],[]⟩)],[],[],[]⟩ [] N Tryz.func312
def c174:Ct:=ctB (.pair tI (.pair tI tN)) tN (F_211 N) [c168 N,c173 N] N Tryz.func275
def c175:Ct:=ctB (.pair (.ptr Tview) (.pair tI (.pair tI tN))) tN (F_212 N) [c161 N,c162 N,c169 N,c174 N] N Tryz.func221
def c176:Ct:=ct ⟨(.pair (.ptr Tview) (.pair TCorner (.pair tI (.pair TSpan .nil)))),(.pair TSpan (.pair TSpan .nil)),(rF 4),F_213 N,false⟩ [] hnn [c172 N,c161 N,c175 N] N Tryz.func153
def c177:Ct:=ct ⟨(.pair TSpan (.pair TSpan .nil)),(.pair TSpan .nil),[false,false],F_214 N,false⟩ [] hnn [] N Tryz.func154
def c178:Ct:=ct ⟨(.pair TSpan (.pair TSpan .nil)),(.pair TSpan .nil),[false,false],F_215 N,false⟩ [] hnn [] N Tryz.func104
def S_30(N:Nat):FnSpec:=⟨.pair (.ptr Tgraph) (.pair TCorner (.pair (.slice TSource) (.pair TTiming tN))),(.pair .bool (.pair TSource .nil)),(rF 6),F_30 N,false⟩
theorem KI_257:CB 257:=cb Tryz.func257
def I_31:InF:=⟨257,Tryz.f257,⟨[],[],[],[]⟩,[],false⟩
theorem Z_30(N:Nat):SN 194 (S_30 N):=snd ⟨es [c178 N,c157 N,c176 N,c177 N,c160 N],[],[I_31],[],[]⟩ ⟨[(0,⟨[.tmp 39 tI,.var 3 [some tI,some tI,some tI,some tI,some tI],.var 4 [some .bool]],[17,18,19,20]++rG 40 44,[],[],[]⟩)],[],[],[]⟩ N (ce _) Tryz.func194 (hi:=(q101 Tryz.func257 KI_257 q323))
def c179:Ct:=⟨(194,[]),S_30 N,Z_30 N,(cb Tryz.func194)⟩
def c180:Ct:=ct ⟨(.pair (.ptr Tgraph) (.pair TCorner (.pair (.slice TSource) (.pair (.slice tI) .nil)))),(.pair TTiming (.pair .bool .nil)),[true,true,true,false],F_216 N,false⟩ [] ⟨[(0,⟨[.tmp 22 tI,.row 2 .bool,.row 3 TSpan,.row 4 TSpan],[12,13,14]++rG 23 19++rG 43 18,[],[],[]⟩)],[],[],[(1,0,.bool),(1,1,TSpan),(1,2,TSpan)]⟩ [c154 N,c179 N,c137 N] N Tryz.func123
def c181:Ct:=ct ⟨(.pair TJob .nil),(.pair (.ptr Twork) tN),[false,false],F_217 N,false⟩ [] hnn [c153 N,c180 N] N Tryz.func89
def c182:Ct:=ctB tN (.pair .bool .nil) (F_218 N) [] N Tryz.func42
def c183:Ct:=ct ⟨(.pair TJob (.pair tI (.pair (.slice tI) .nil))),(.pair (.ptr Twork) tN),[false,false],F_219 N,false⟩ [] hnn [c182 N,c181 N,c79 N,c133 N] N Tryz.func74
def c184:Ct:=ctA (.pair (.ptr Twork) tN) tN (F_220 N) ⟨[(0,⟨[.tmp 26 tI,.row 0 tI],[7,8,9,11]++rG 27 59,[],[],[]⟩),(2,⟨[.tmp 54 tI,.row 0 tI],[],[],[],[]⟩)],[],[],[]⟩ [c133 N,c157 N,c160 N] N Tryz.func139
def S_32(N M:Nat):RecSpec:=⟨(.pair tI (.pair (.slice tI) .nil)),(.ptr Twork),TPath,fun x wv xs=>F_32 N M (x,wv,xs,())⟩
theorem KI_210:CB 210:=cb Tryz.func210
def I_33:InF:=⟨210,Tryz.f210,⟨[(0,⟨[.tmp 2 tI,.tmp 3 tI,.row 6 tI],rG 7 21,[],[],[]⟩)],[],[],[]⟩,[],false⟩
def C_32(N M:Nat):Ctx:=⟨[((152,[]),(c157 N).S),((207,[]),(c160 N).S),((209,[]),S_26 N)],[73],[I_33],[],[(208,.rc (S_32 N M))]⟩
theorem K_32:CB 208:=cb Tryz.func208
theorem Z_32(N:Nat):∀ M,RecOk Tryz.prog 208 (S_32 N M)
 | 0=>fun w ds x wv wv2 xs ys ok bw bl bk us t1 t2 t3 blk hdr _ _ _ _ _ _ _ _ _ h=>nomatch (show none=some (wv2,ys) from h)
 | M+1=>sndR (C_32 N M) ⟨[(0,⟨[.tmp 41 tI,.var 0 [some (.ptr Twork)],.var 1 [none],.row 3 TPath],[11,12,33]++rG 42 34,[],[],[]⟩)],[(4,[(9,none)])],[],[]⟩ N ((q228 (c157 N).z (cb Tryz.func152) (q228 (c160 N).z (cb Tryz.func207) (q228 (Z_26 N) K_26 q81)))) ((q21 (Z_32 N M) K_32 q49)) Tryz.func208 (hi:=(q101 Tryz.func210 KI_210 q323))
def S_34(N:Nat):FnSpec:=⟨.pair (.ptr Twork) tN,(.pair (.slice TPath) .nil),[true],F_34 N,false⟩
theorem Z_34(N:Nat):SN 140 (S_34 N):=sndX ⟨[],[],[],[],[(208,.rc (S_32 N N))]⟩ ⟨[],[],[],[]⟩ N (q81) ((q21 (Z_32 N N) K_32 q49)) Tryz.func140
def c185:Ct:=⟨(140,[]),S_34 N,Z_34 N,(cb Tryz.func140)⟩
def c186:Ct:=ct ⟨(.pair (.ptr Twork) (.pair tI (.pair (.slice tI) .nil))),(.pair (.slice TSpan) .nil),[true],F_221 N,false⟩ [] ⟨[(0,⟨[.tmp 31 tI,.var 1 [some tI,some tI],.row 2 TSpan],[12,13,14,28]++rG 32 49,[],[],[]⟩)],[],[],[]⟩ [c157 N,c176 N,c177 N] N Tryz.func83
def c187:Ct:=ct ⟨(.pair (.ptr Twork) (.pair tI (.pair (.slice tI) .nil))),(.pair TSpan .nil),[false,false],F_222 N,false⟩ [] hnn [c186 N] N Tryz.func81
def c188:Ct:=ct ⟨(.pair TPath (.pair TPath .nil)),(.pair tI (.pair .bool .nil)),[false,false],F_223 N,false⟩ [] ⟨[(0,⟨[.tmp 6 tI],rG 12 24,[],[],[]⟩)],[],[],[]⟩ [] N Tryz.func151
def c189:Ct:=ctB (.pair TPath (.pair TPath (.pair (.slice TSpan) .nil))) tN (F_224 N) [c188 N] N Tryz.func82
def S_35(N:Nat):FnSpec:=⟨.pair TJob (.pair tI tN),(.pair tI tN),[false,false],F_35 N,false⟩
theorem KI_69:CB 69:=cb Tryz.func69
def I_36:InF:=⟨69,Tryz.f69,⟨[(1,⟨[.tmp 60 tI,.row 10 tI],[15]++rG 61 14,[(13,tI)],[],[]⟩),
 (3,⟨[.tmp 77 tI,.var 1 [some tI],.var 2 [some .bool]],[17,18,19,20]++rG 78 36,[],[],[]⟩),
 (5,⟨[.tmp 89 tI,.var 1 [some tI],.var 2 [some .bool]],[],[],[],[]⟩)],[],[],[]⟩,[],false⟩
theorem KI_70:CB 70:=cb Tryz.func70
def I_37:InF:=⟨70,Tryz.f70,⟨[],[],[],[]⟩,[],false⟩
theorem KI_74:CB 74:=cb Tryz.func74
def I_38:InF:=⟨74,Tryz.f74,⟨[],[],[],[]⟩,[],false⟩
theorem Z_35(N:Nat):SN 24 (S_35 N):=snd ⟨es [c182 N,c187 N,c189 N,c186 N,c181 N,c184 N,c185 N,c79 N,c133 N],[],[I_36,I_37,I_38],[],[]⟩ ⟨[],[],[],[]⟩ N (ce _) Tryz.func24 (hi:=(q101 Tryz.func69 KI_69 (q101 Tryz.func70 KI_70 (q101 Tryz.func74 KI_74 q323))))
def c190:Ct:=⟨(24,[]),S_35 N,Z_35 N,(cb Tryz.func24)⟩
def c191:Ct:=ct ⟨(.pair TJob tN),(.pair (.ptr Tl20Work) tN),[false,false],F_225 N,false⟩ [] hnn [c28 N,c8 N,c62 N] N Tryz.func76
def c192:Ct:=ct ⟨(.pair (.ptr Tl20Work) tN),(.pair TSource (.pair .bool .nil)),(rF 6),F_39 N,false⟩ [] ⟨[(0,⟨[.tmp 6 tI],rG 7 21,[],[],[]⟩)],[],[],[]⟩ [] N Tryz.func148
def c193:Ct:=ct ⟨(.pair (.ptr Tl20Work) .nil),(.pair (.slice tI) .nil),[true],F_226 N,false⟩ [] ⟨[(0,⟨[.tmp 6 tI,.row 0 tI],rG 7 5++rG 37 63,[],[],[]⟩),(2,⟨[.tmp 8 tI,.tmp 11 tI],[],[],[],[]⟩)],[],[],[]⟩ [c28 N,c39 N,c192 N] N Tryz.func78
def S_40(N M:Nat):FnSpec:=⟨.pair (.ptr Tl20Work) tN,(.pair (.slice TPath) .nil),[true],F_40 N M,false⟩
def C_40(N M:Nat):Ctx:=⟨[((148,[]),(c192 N).S),((141,[]),S_40 N M)],[21,103],[],[],[]⟩
theorem K_40:CB 141:=cb Tryz.func141
theorem Z_40(N:Nat):∀ M,SN 141 (S_40 N M)
 | 0=>fun w args x r ok _ _ _ h=>nomatch (show none=some r from h)
 | M+1=>snd (C_40 N M) ⟨[(0,⟨[.tmp 8 tI,.row 0 TPath],rG 25 18++[53,54,71]++rG 43 10++rG 55 16++[9,10,24]++rG 72 35++[11],[],[],[]⟩),(2,⟨[.tmp 10 tI,.row 0 TPath],[],[],[],[]⟩)],[],[],[]⟩ N (q228 (c192 N).z (cb Tryz.func148) (q228 (Z_40 N M) K_40 q81)) Tryz.func141
def c194(N M:Nat):Ct:=⟨(141,[]),S_40 N M,Z_40 N M,K_40⟩
def c195:Ct:=ct ⟨(.pair TJob (.pair tI tN)),(.pair (.ptr Tl20Work) (.pair (.slice TPath) (.pair (.slice TPath) tN))),[false,true,true,false],F_227 N,false⟩ [] ⟨[],[],[(7,TPath),(8,TPath)],[]⟩ [c28 N,c191 N,c8 N,c193 N,c194 N N] N Tryz.func71
def c196:Ct:=ctB (.pair TSpan tN) tN (F_228 N) [] N Tryz.func47
def c197:Ct:=ctB (.pair (.ptr Tl20Work) (.pair tI tN)) tN (F_229 N) [c196 N,c57 N] N Tryz.func160
def c198:Ct:=ctA (.pair (.ptr Tl20Work) (.pair tI (.pair (.slice tI) tN))) tN (F_230 N) ⟨[(0,⟨[.tmp 11 tI,.tmp 12 tI],rG 23 15,[],[],[]⟩)],[],[],[]⟩ [c196 N,c192 N,c197 N] N Tryz.func142
def c199:Ct:=ctB (.pair (.ptr Tl20Work) (.pair TPath (.pair TPath .nil))) tN (F_231 N) [c198 N] N Tryz.func72
def c200:Ct:=ct ⟨(.pair TPath (.pair TPath .nil)),(.pair (.slice tI) (.pair .bool .nil)),[true,false],F_232 N,false⟩ [] ⟨[(0,⟨[.tmp 7 tI,.row 2 tI],[8]++rG 15 35,[],[],[]⟩)],[],[],[]⟩ [] N Tryz.func143
def c201:Ct:=ctB (.pair (.ptr Tl20Work) (.pair TPath (.pair TPath .nil))) tN (F_233 N) [c198 N,c200 N] N Tryz.func73
end
end Go.Proofs.YtcmhpcoiomdekaaGreatDoor
