/- The functions' contracts. Printed by my dec.py. No condition of its own. -/
import Derived.Test.YtcmhpcoiomdekaaGreatDoorPvD1
namespace Go.Proofs.YtcmhpcoiomdekaaGreatDoor
open Go.RowKit
set_option maxRecDepth 100000
set_option linter.unusedVariables false
noncomputable section
variable (N:Nat)
def c59:Ct0:=ct ⟨(.pair TBlock (.pair TCorner (.pair (.slice TLink) (.pair (.slice .bool) (.pair (.slice TSource) (.pair TTiming tN)))))),(.pair .bool (.pair TSource .nil)),(rF 6),F_96 N,false⟩ [] ⟨[(0,⟨[.tmp 16 .bool,.tmp 18 tI,.var 4 [some tI,some tI,some tI,some tI,some tI]],rG 25 17,[],[],[]⟩),(2,⟨[.tmp 19 tI,.tmp 16 .bool,.var 4 [some tI,some tI,some tI,some tI,some tI]],[20]++rG 42 16++[62,63,71,58,59,60,61]++rG 64 7++[21,22,23]++rG 72 47,[],[],[]⟩)],[],[],[]⟩ [c58 N,c57 N] N Tryz.func135
def c60:Ct0:=ct ⟨(.pair TBlock (.pair TCorner (.pair (.slice TLink) (.pair (.slice .bool) (.pair (.slice TSource) (.pair (.slice tI) .nil)))))),(.pair TTiming (.pair .bool .nil)),[true,true,true,false],F_97 N,false⟩ [] ⟨[(0,⟨[.tmp 15 tI,.row 3 .bool,.row 4 TSpan,.row 5 TSpan],[16,17,18]++rG 22 27++rG 50 16,[],[],[]⟩)],[],[],[(2,0,.bool),(2,1,TSpan),(2,2,TSpan)]⟩ [c28 N,c42 N,c36 N,c59 N] N Tryz.func66
def c61:Ct0:=ct ⟨(.pair TBlock (.pair TCorner (.pair (.slice tI) (.pair (.slice TSource) .nil)))),(.pair TTiming tN),[true,true,true,false],F_98 N,false⟩ [] ⟨[],[],[],[(2,0,.bool),(2,1,TSpan),(2,2,TSpan)]⟩ [c41 N,c25 N,c60 N,c27 N] N Tryz.func22
def c62:Ct0:=ct ⟨(.pair TJob .nil),(.pair (.ptr Tl20Work) tN),[false,false],F_99 N,false⟩ [] hnn [c61 N,c25 N,c27 N] N Tryz.func146
def S_24(N:Nat):VioSpec:=⟨Tl01Source,(.pair TJob .nil),(.pair tI (.pair (.slice tI) .nil)),[],fun v x=>F_24 N (v,x),false⟩
theorem Z_24(N:Nat):VioOk Tryz.prog 222 (S_24 N):=sndV ⟨es0 [c28 N,c62 N],[],[],[],[(40,.vio (S_0 N))]⟩ ⟨[(0,⟨[.tmp 9 tI,.tmp 11 tI,.var 0 [some (.slice (.int .u8)),some tI,some tI],.row 3 tI],[12,13,14,42]++rG 45 59,[],[],[]⟩),(2,⟨[.tmp 13 tI,.row 4 tI],[49],[],[],[]⟩)],[],[],[]⟩ N (ce _) ((q21 (Z_0 N) K_0 q60)) Tryz.func222
def S_25(N:Nat):FnSpec:=⟨.pair (.slice (.int .u8)) .nil,(.pair TJob (.pair tI (.pair (.slice tI) .nil))),(rF 14),F_25 N,false⟩
theorem KI_39:CB 39:=cb Tryz.func39
def I_26:InF:=⟨39,Tryz.f39,⟨[(0,⟨[.tmp 4 tI,.var 2 [some (.slice (.int .u8)),some tI,some tI]],rG 8 25,[],[],[]⟩)],[],[],[]⟩,[],false⟩
theorem Z_25(N:Nat):SN 155 (S_25 N):=sndX ⟨[],[],[I_26],[],[(137,.vio (S_23 N)),(222,.vio (S_24 N))]⟩ ⟨[],[],[],[]⟩ N (q105) ((q21 (Z_23 N) (cb Tryz.func137) (q21 (Z_24 N) (cb Tryz.func222) q60))) Tryz.func155 (hi:=(q165 Tryz.func39 KI_39 q375))
def c63:CtP:=⟨(155,[]),S_25 N,Z_25 N,(cb Tryz.func155)⟩
def S_27(N:Nat):FnSpec:=⟨.pair (.slice (.int .u8)) .nil,(.pair TJob (.pair tI (.pair (.slice tI) tN))),(rF 15),F_27 N,false⟩
def I_28:InF:=⟨39,Tryz.f39,⟨[(0,⟨[.tmp 4 tI,.var 4 [none,some tI,some tI]],rG 8 25,[],[],[]⟩)],[],[],[]⟩,[],false⟩
theorem Z_27(N:Nat):SN 84 (S_27 N):=sndX ⟨esP [c63 N],[],[I_28],[],[(40,.vio (S_0 N))]⟩ ⟨[],[(3,[(18,none)])],[],[]⟩ N (ce _) ((q21 (Z_0 N) K_0 q60)) Tryz.func84 (hi:=(q165 Tryz.func39 KI_39 q375))
def c64:CtP:=⟨(84,[]),S_27 N,Z_27 N,(cb Tryz.func84)⟩
def c65:CtP:=ct ⟨(.pair (.slice (.int .u8)) .nil),(.pair TJob (.pair tI (.pair (.slice tI) tN))),(rF 15),F_100 N,false⟩ [] hnn [c64 N] N Tryz.func31
def c66:CtP:=ctB (.pair tI (.pair tI tN)) (.pair .bool .nil) (F_101 N) [] N Tryz.func119
def c67:CtP:=⟨(125,[]),q261 N,q479 N,q477⟩
def c68:CtP:=⟨(126,[]),q155 N,q274 N,q284⟩
def c69:CtP:=ctB (.pair .str .nil) (.pair .bool .nil) (F_102 N) [c66 N,c67 N,c68 N] N Tryz.func61
def c70:CtP:=ctB (.pair (.slice TPin) .nil) tN (F_103 N) [] N Tryz.func324
def c71:CtP:=ctA (.pair (.slice .str) (.pair .str .nil)) tN (F_104 N) ⟨[(0,⟨[.tmp 8 tI],[5]++rG 9 8++[18],[],[],[]⟩)],[],[],[]⟩ [] N Tryz.func91
def c72:CtP:=ctB (.pair (.slice .str) (.pair .str .nil)) (.pair .bool .nil) (F_105 N) [c71 N] N Tryz.func188
def c73:CtP:=ctA (.pair (.slice .str) .nil) (.pair .bool .nil) (F_106 N) ⟨[(0,⟨[.tmp 7 tI],[3,4]++rG 8 15,[],[],[]⟩)],[],[],[]⟩ [c69 N,c72 N] N Tryz.func121
def c74:CtP:=ctA (.pair (.slice TPin) .nil) (.pair .bool .nil) (F_107 N) ⟨[(0,⟨[.tmp 8 tI,.row 0 .str],[4,5]++rG 9 26++[44]++rG 35 9,[(3,.str),(3,.str)],[],[]⟩)],[],[],[]⟩ [c66 N,c73 N,c70 N] N Tryz.func297
def c75:CtP:=ctB tN (.pair .bool .nil) (F_108 N) [] N Tryz.func345
def c76:CtP:=ctB (.pair (.slice tI) .nil) tN (F_109 N) [] N Tryz.func167
def c77:CtP:=ctB (.pair tI (.pair (.ptr tI) (.pair (.ptr tI) .nil))) (.pair .bool .nil) (F_110 N) [c66 N] N Tryz.func212
def c78:CtP:=ct ⟨(.pair (.slice tI) (.pair (.clo 212 (.pair (.ptr tI) (.pair (.ptr tI) .nil))) .nil)),tN,[false],F_111 N,false⟩ [212] ⟨[(0,⟨[.tmp 8 tI],[5]++rG 9 8++[18],[],[],[]⟩)],[],[],[]⟩ [c77 N] N Tryz.func267
def c79:CtP:=ct ⟨(.pair (.slice tI) (.pair (.clo 212 (.pair (.ptr tI) (.pair (.ptr tI) .nil))) .nil)),(.pair .bool .nil),[false],F_112 N,false⟩ [212] hnn [c78 N] N Tryz.func211
def c80:CtP:=ctA (.pair (.slice tI) (.pair tI tN)) (.pair .bool .nil) (F_113 N) ⟨[],[(1,[(4,some tI),(5,some tI)])],[],[]⟩ [c79 N] N Tryz.func144
def c81:CtP:=ctA (.pair (.slice tI) .nil) (.pair .bool .nil) (F_114 N) ⟨[(0,⟨[.tmp 3 tI],rG 4 16,[],[],[]⟩)],[],[],[]⟩ [] N Tryz.func252
def c82:CtP:=ctB (.pair (.slice tI) .nil) (.pair .bool .nil) (F_115 N) [c66 N,c80 N,c76 N,c81 N] N Tryz.func371
def c83:CtP:=ctB (.pair TTable .nil) (.pair .bool .nil) (F_116 N) [c80 N,c82 N] N Tryz.func363
def c84:CtP:=ctA (.pair (.slice tI) .nil) tN (F_117 N) ⟨[(0,⟨[.tmp 3 tI,.tmp 4 tI],rG 12 12,[],[],[]⟩)],[],[],[]⟩ [] N Tryz.func364
def c85:CtP:=ctB (.pair TTable (.pair (.ptr .bool) .nil)) (.pair .bool .nil) (F_118 N) [c83 N,c84 N] N Tryz.func362
def c86:CtP:=ct ⟨(.pair (.slice TTable) (.pair (.clo 362 (.pair (.ptr .bool) .nil)) .nil)),tN,[false],F_119 N,false⟩ [362] ⟨[(0,⟨[.tmp 8 tI],[5]++rG 9 8++[18],[],[],[]⟩)],[],[],[]⟩ [c85 N] N Tryz.func370
def c87:CtP:=ct ⟨(.pair (.slice TTable) (.pair (.clo 362 (.pair (.ptr .bool) .nil)) .nil)),(.pair .bool .nil),[false],F_120 N,false⟩ [362] hnn [c86 N] N Tryz.func361
def c88:CtP:=ctA (.pair (.slice TTable) (.pair .bool .nil)) (.pair .bool .nil) (F_121 N) ⟨[],[(1,[(3,some .bool)])],[],[]⟩ [c87 N] N Tryz.func346
def c89:CtP:=ctB (.pair TPin .nil) (.pair .bool .nil) (F_122 N) [] N Tryz.func366
def c90:CtP:=ct ⟨(.pair (.slice TPin) (.pair (.clo 366 .nil) .nil)),tN,[false],F_123 N,false⟩ [366] ⟨[(0,⟨[.tmp 8 tI],[5]++rG 9 8++[18],[],[],[]⟩)],[],[],[]⟩ [c89 N] N Tryz.func365
def c91:CtP:=ctB (.pair TCell .nil) tN (F_124 N) [c90 N] N Tryz.func347
def c92:CtP:=ctB (.pair TCell .nil) tN (F_125 N) [c70 N] N Tryz.func328
def c93:CtP:=ctB (.pair TCell tN) (.pair .bool .nil) (F_126 N) [c66 N,c92 N] N Tryz.func348
def c94:CtP:=ctB (.pair TCell (.pair TArc .nil)) (.pair .bool .nil) (F_127 N) [c66 N,c92 N,c75 N,c88 N,c91 N,c93 N] N Tryz.func325
def c95:CtP:=ctB (.pair TArc (.pair (.ptr TArc) .nil)) (.pair .bool .nil) (F_128 N) [] N Tryz.func327
def c96:CtP:=ct ⟨(.pair (.slice TArc) (.pair (.clo 327 (.pair (.ptr TArc) .nil)) .nil)),tN,[false],F_129 N,false⟩ [327] ⟨[(0,⟨[.tmp 8 tI],[5]++rG 9 8++[18],[],[],[]⟩)],[],[],[]⟩ [c95 N] N Tryz.func349
def c97:CtP:=ct ⟨(.pair (.slice TArc) (.pair (.clo 327 (.pair (.ptr TArc) .nil)) .nil)),(.pair .bool .nil),[false],F_130 N,false⟩ [327] hnn [c96 N] N Tryz.func326
def c98:CtP:=ctA (.pair TCell .nil) (.pair .bool .nil) (F_131 N) ⟨[(0,⟨[.tmp 8 tI],[3,4]++rG 9 17,[],[],[]⟩)],[(4,[(4,some TArc)])],[],[]⟩ [c94 N,c97 N] N Tryz.func298
def c99:CtP:=ctB (.pair TArc (.pair (.ptr tI) .nil)) (.pair .bool .nil) (F_132 N) [] N Tryz.func350
def c100:CtP:=ct ⟨(.pair (.slice TArc) (.pair (.clo 350 (.pair (.ptr tI) .nil)) .nil)),tN,[false],F_133 N,false⟩ [350] ⟨[(0,⟨[.tmp 8 tI],[5]++rG 9 8++[18],[],[],[]⟩)],[],[],[]⟩ [c99 N] N Tryz.func349
def c101:CtP:=ct ⟨(.pair (.slice TArc) (.pair (.clo 350 (.pair (.ptr tI) .nil)) .nil)),(.pair .bool .nil),[false],F_134 N,false⟩ [350] hnn [c100 N] N Tryz.func326
def c102:CtP:=ctA (.pair TCell tN) (.pair .bool .nil) (F_135 N) ⟨[],[(1,[(3,some tI)])],[],[]⟩ [c101 N] N Tryz.func329
def c103:CtP:=ctA (.pair TCell .nil) (.pair .bool .nil) (F_136 N) ⟨[(0,⟨[.tmp 3 tI,.tmp 9 tI],[5]++rG 10 8,[],[],[]⟩)],[],[],[]⟩ [c80 N,c92 N,c102 N] N Tryz.func299
def c104:CtP:=ctB (.pair TCell .nil) (.pair .bool .nil) (F_137 N) [c69 N,c66 N,c74 N,c98 N,c103 N] N Tryz.func246
def c105:CtP:=ctA (.pair TLibrary .nil) (.pair .bool .nil) (F_138 N) ⟨[(0,⟨[.tmp 9 tI,.row 1 .str],[5]++rG 10 12,[(3,.str)],[],[]⟩)],[],[],[]⟩ [c73 N,c104 N] N Tryz.func181
def c106:CtP:=ctA (.pair TDesign .nil) (.pair .bool .nil) (F_139 N) ⟨[(0,⟨[.tmp 12 tI,.row 1 .str],[6]++rG 13 9,[(3,.str)],[],[]⟩),(2,⟨[.tmp 25 tI,.row 2 .str],[8]++rG 26 9,[(4,.str)],[],[]⟩)],[],[],[]⟩ [c73 N] N Tryz.func182
def c107:CtP:=ctB (.pair (.slice TCell) .nil) tN (F_140 N) [] N Tryz.func247
def c108:CtP:=ctB (.pair (.slice .str) .nil) tN (F_141 N) [] N Tryz.func249
def c109:CtP:=ctB (.pair TDesign tN) (.pair .bool .nil) (F_142 N) [c66 N,c108 N] N Tryz.func184
def c110:CtP:=ctB (.pair tI (.pair (.ptr TDesign) .nil)) (.pair .bool .nil) (F_143 N) [c109 N] N Tryz.func248
def c111:CtP:=ct ⟨(.pair (.slice tI) (.pair (.clo 248 (.pair (.ptr TDesign) .nil)) .nil)),tN,[false],F_144 N,false⟩ [248] ⟨[(0,⟨[.tmp 8 tI],[5]++rG 9 8++[18],[],[],[]⟩)],[],[],[]⟩ [c110 N] N Tryz.func267
def c112:CtP:=ct ⟨(.pair (.slice tI) (.pair (.clo 248 (.pair (.ptr TDesign) .nil)) .nil)),(.pair .bool .nil),[false],F_145 N,false⟩ [248] hnn [c111 N] N Tryz.func211
def c113:CtP:=ctA (.pair TDesign (.pair TLibrary (.pair TInstance .nil))) (.pair .bool .nil) (F_146 N) ⟨[],[(1,[(3,some TDesign)])],[],[]⟩ [c66 N,c112 N,c107 N] N Tryz.func183
def c114:CtP:=ctB tN (.pair .bool .nil) (F_147 N) [] N Tryz.func186
def c115:CtP:=ct ⟨(.pair (.slice tI) (.pair (.clo 186 .nil) .nil)),tN,[false],F_148 N,false⟩ [186] ⟨[(0,⟨[.tmp 8 tI],[5]++rG 9 8++[18],[],[],[]⟩)],[],[],[]⟩ [c114 N] N Tryz.func250
def c116:CtP:=ct ⟨(.pair (.slice tI) (.pair (.clo 186 .nil) .nil)),(.pair .bool .nil),[false],F_149 N,false⟩ [186] hnn [c115 N] N Tryz.func185
def c117:CtP:=ctA (.pair TLibrary (.pair TDesign .nil)) (.pair .bool .nil) (F_150 N) ⟨[(0,⟨[.tmp 25 tI,.row 2 tI],[7]++rG 26 22,[],[],[]⟩),(2,⟨[.tmp 51 tI,.row 2 tI],[9]++rG 52 29,[],[],[]⟩)],[],[],[]⟩ [c105 N,c106 N,c113 N,c109 N,c116 N] N Tryz.func116
def c118:CtP:=ct ⟨(.pair TDesign .nil),(.pair (.slice Tl05Place) .nil),[true],F_151 N,false⟩ [] ⟨[(0,⟨[.tmp 13 tI,.row 1 Tl05Place],[4,5,6,7]++rG 14 27,[(3,Tl05Place)],[],[]⟩),(2,⟨[.tmp 21 tI,.row 1 Tl05Place],[],[],[],[]⟩),(4,⟨[.tmp 44 tI,.row 1 Tl05Place],[8,9]++rG 45 15,[],[],[]⟩)],[],[],[]⟩ [] N Tryz.func117
def c119:CtP:=ctA (.pair TWire .nil) (.pair .bool .nil) (F_152 N) ⟨[(0,⟨[.tmp 8 tI],[3,4]++rG 9 29,[],[],[]⟩)],[],[],[]⟩ [c66 N] N Tryz.func187
def c120:CtP:=ctB (.pair TWire tN) (.pair .bool .nil) (F_153 N) [c66 N,c80 N,c76 N,c119 N] N Tryz.func118
def c121:CtP:=ctA (.pair TBlock .nil) (.pair .bool .nil) (F_154 N) ⟨[(0,⟨[.tmp 32 tI,.row 1 tI],[5]++rG 33 14,[],[],[]⟩),(2,⟨[.tmp 50 tI],[6,7]++rG 51 12,[],[],[]⟩)],[],[],[]⟩ [c117 N,c118 N,c120 N] N Tryz.func56
def c122:CtP:=ctB (.pair tI tN) (.pair .bool .nil) (F_155 N) [] N Tryz.func127
def c123:CtP:=ctB (.pair TCorner .nil) (.pair .bool .nil) (F_156 N) [c69 N,c122 N] N Tryz.func62
def c124:CtP:=ct ⟨(.pair TArc .nil),(.pair (.slice TSpan) .nil),[true],F_157 N,false⟩ [] ⟨[],[],[(2,TSpan)],[]⟩ [] N Tryz.func232
def c125:CtP:=ct ⟨(.pair TBlock (.pair TInstance tN)),(.pair (.slice TLink) .nil),[true],F_158 N,false⟩ [] ⟨[(0,⟨[.tmp 21 tI,.row 2 TLink],[8,9,11]++rG 22 34,[(7,TLink)],[],[]⟩),(2,⟨[.tmp 29 tI,.row 2 TLink],[],[],[],[]⟩)],[],[],[]⟩ [c124 N] N Tryz.func166
def S_29(N:Nat):FnSpec:=⟨.pair (.slice tI) .nil,(.pair (.slice tI) .nil),[true],F_29 N,false⟩
def H_29:Hints:=⟨[],[],[(2,tI)],[]⟩
def C_29(N:Nat):Ctx:=⟨[],[],[],[],[]⟩
theorem E_29(N:Nat)(xs:List (Ty.den tI)):pevFnW Tryz.prog (C_29 N) N H_29 (S_29 N) Tryz.f209 [.one (.sln tI xs)]=F_29 N (xs,()):=by kernel_rfl
theorem E0_29(N:Nat):pevFnW Tryz.prog (C_29 N) N H_29 (S_29 N) Tryz.f209 [.one (.slz tI)]=F_29 N ([],()):=by kernel_rfl
theorem Z_29(N:Nat):Sound Tryz.prog PRE 209 (S_29 N):=q397 (C:=C_29 N) (H:=H_29) (N:=N) (e:=tI) (rs:=(.pair (.slice tI) .nil)) (own:=[true]) (F:=F_29 N) (q536 q342 (by kernel_rfl) q105) Tryz.func209 (fun xs r h=>(E_29 N xs).trans h) (fun r h=>(E0_29 N).trans h)
def c126:CtP:=⟨(209,[]),S_29 N,Z_29 N,(cb Tryz.func209)⟩
def c127:CtP:=ct ⟨(.pair TDesign tN),(.pair (.slice tI) .nil),[true],F_159 N,false⟩ [] ⟨[(0,⟨[.tmp 11 tI,.row 2 tI],[6,7]++rG 12 18,[(5,tI)],[],[]⟩)],[],[],[]⟩ [c118 N] N Tryz.func233
def c128:CtP:=ctB (.pair TDesign (.pair TLibrary (.pair Tl05Place .nil))) tN (F_160 N) [] N Tryz.func234
def c129:CtP:=ct ⟨(.pair TBlock tN),(.pair (.slice tI) .nil),[true],F_161 N,false⟩ [] ⟨[(0,⟨[.tmp 27 tI,.row 2 tI],[8,9]++rG 28 24,[],[],[]⟩),(2,⟨[.tmp 10 tI,.row 2 tI],rG 55 18,[],[],[]⟩)],[],[],[]⟩ [c118 N,c126 N,c127 N,c128 N] N Tryz.func168
def c130:CtP:=ct ⟨(.pair TBlock tN),(.pair (.slice tI) .nil),[true],F_162 N,false⟩ [] ⟨[(0,⟨[.tmp 8 tI,.row 3 tI],rG 20 28,[],[],[]⟩)],[],[],[]⟩ [c129 N] N Tryz.func235
def c131:CtP:=ct ⟨(.pair TBlock tN),(.pair (.slice tI) .nil),[true],F_163 N,false⟩ [] ⟨[(0,⟨[.tmp 19 tI,.row 2 tI],[8]++rG 20 11,[(6,tI)],[],[]⟩)],[],[],[]⟩ [c130 N] N Tryz.func169
def S_30(N:Nat):FnSpec:=⟨.pair TBlock .nil,(.pair (.ptr Tview) .nil),[false],F_30 N,false⟩
theorem Z_30(N:Nat):SN 100 (S_30 N):=snd ⟨esP [c118 N,c125 N,c76 N,c129 N,c131 N],[54,112],[],[],[]⟩ ⟨[(0,⟨[.tmp 4 tI,.tmp 25 tI,.var 2 [some (.slice TCell),some (.slice TInstance),some (.slice .str),some (.slice TPort),some (.slice TWire),none,none,none,none,none],.row 3 TLink],[6]++rG 26 21,[],[(2,6,TLink)],[]⟩),(2,⟨[.tmp 60 tI,.row 4 tI,.tree 5 tI],[9,10]++rG 61 11++[84]++rG 72 12,[],[],[]⟩),(4,⟨[.tmp 88 tI,.var 2 [some (.slice TCell),some (.slice TInstance),some (.slice .str),some (.slice TPort),some (.slice TWire),none,none,none,none,none],.row 3 TLink,.row 6 tI,.row 7 (.slice tI)],[11,12,13,14]++rG 89 66,[],[(2,7,tI),(2,8,(.slice tI))],[]⟩),(6,⟨[.tmp 122 tI,.var 2 [some (.slice TCell),some (.slice TInstance),some (.slice .str),some (.slice TPort),some (.slice TWire),none,none,none,none,none],.row 3 TLink],[],[],[],[]⟩),(8,⟨[.tmp 127 tI,.var 2 [some (.slice TCell),some (.slice TInstance),some (.slice .str),some (.slice TPort),some (.slice TWire),none,none,none,none,none],.row 3 TLink],[],[],[],[]⟩)],[(1000004,[(8,none)])],[],[]⟩ N (ce _) Tryz.func100
def c132:CtP:=⟨(100,[]),S_30 N,Z_30 N,(cb Tryz.func100)⟩
def c133:CtP:=ctB (.pair (.slice Tl05Place) .nil) tN (F_164 N) [] N Tryz.func213
def c134:CtP:=ctB (.pair (.ptr Tview) .nil) tN (F_165 N) [c133 N] N Tryz.func145
def c135:CtP:=ctB (.pair (.slice .bool) .nil) tN (F_166 N) [] N Tryz.func236
def c136:CtP:=ctB (.pair (.slice TSpan) .nil) tN (F_167 N) [] N Tryz.func237
def c137:CtP:=ctB tN (.pair .bool .nil) (F_168 N) [c66 N] N Tryz.func258
def c138:CtP:=ctB (.pair TSpan .nil) (.pair .bool .nil) (F_169 N) [c137 N] N Tryz.func195
def c139:CtP:=ctB tN (.pair .bool .nil) (F_170 N) [c66 N] N Tryz.func291
def c140:CtP:=ctB (.pair TSpan .nil) (.pair .bool .nil) (F_171 N) [c138 N,c139 N] N Tryz.func238
def c141:CtP:=ctA (.pair (.ptr Tview) (.pair TTiming .nil)) (.pair .bool .nil) (F_172 N) ⟨[(0,⟨[.tmp 32 tI],[6,7]++rG 33 43,[],[],[]⟩)],[],[],[]⟩ [c134 N,c138 N,c135 N,c136 N,c140 N] N Tryz.func170
def c142:CtP:=ctB (.pair (.slice TLink) .nil) tN (F_173 N) [] N Tryz.func251
def c143:CtP:=ctB (.pair (.ptr Tview) (.pair (.slice tI) .nil)) (.pair .bool .nil) (F_174 N) [c80 N,c142 N,c81 N] N Tryz.func189
def c144:CtP:=ctB (.pair (.ptr Tview) tN) (.pair .bool .nil) (F_175 N) [c66 N,c134 N] N Tryz.func95
def c145:CtP:=ctA (.pair (.ptr Tview) (.pair (.slice TSource) .nil)) (.pair .bool .nil) (F_176 N) ⟨[(0,⟨[.tmp 9 tI],[5,6]++rG 10 37,[],[],[]⟩)],[],[],[]⟩ [c144 N,c138 N,c140 N] N Tryz.func190
def c146:CtP:=ctA (.pair (.ptr Tview) (.pair (.slice tI) .nil)) (.pair (.ptr Tgraph) .nil) (F_177 N) ⟨[(0,⟨[.tmp 23 tI,.row 0 .bool],[6]++rG 24 9,[],[],[]⟩),(2,⟨[.tmp 35 tI,.row 0 .bool],[8]++rG 36 10,[],[],[]⟩)],[],[],[]⟩ [] N Tryz.func191
def c147:CtP:=ctB (.pair TLink .nil) (.pair .bool .nil) (F_178 N) [] N Tryz.func254
def c148:CtP:=ct ⟨(.pair (.ptr Tgraph) (.pair (.clo 254 .nil) .nil)),(.pair (.slice tI) .nil),[true],F_179 N,false⟩ [254] ⟨[(0,⟨[.tmp 16 tI,.row 0 tI],[6,7]++rG 17 21,[(5,tI)],[],[]⟩)],[],[],[]⟩ [c147 N] N Tryz.func253
def c149:CtP:=ctA (.pair (.slice tI) tN) tN (F_180 N) ⟨[(0,⟨[.tmp 8 tI],[5]++rG 9 8++[18],[],[],[]⟩)],[],[],[]⟩ [] N Tryz.func255
def c150:CtP:=ctB (.pair TLink (.pair (.ptr tI) .nil)) (.pair .bool .nil) (F_181 N) [] N Tryz.func300
def c151:CtP:=ct ⟨(.pair (.ptr Tgraph) (.pair (.clo 300 (.pair (.ptr tI) .nil)) .nil)),(.pair (.slice tI) .nil),[true],F_182 N,false⟩ [300] ⟨[(0,⟨[.tmp 16 tI,.row 0 tI],[6,7]++rG 17 21,[(5,tI)],[],[]⟩)],[],[],[]⟩ [c150 N] N Tryz.func253
def c152:CtP:=ct ⟨(.pair (.ptr Tgraph) tN),(.pair (.slice tI) .nil),[true],F_183 N,false⟩ [] ⟨[],[(1,[(3,some tI)])],[],[]⟩ [c151 N] N Tryz.func256
def c153:CtP:=ct ⟨(.pair (.ptr Tgraph) .nil),(.pair (.slice tI) (.pair .bool .nil)),[true,false],F_184 N,false⟩ [] ⟨[(0,⟨[.tmp 20 tI,.row 0 tI],[6]++rG 21 20,[],[],[]⟩),(2,⟨[.tmp 43 tI,.row 0 tI,.row 2 tI],[8,10]++rG 44 38,[(7,tI)],[],[]⟩),(4,⟨[.tmp 60 tI,.row 0 tI],[],[],[],[]⟩)],[],[(2,tI)],[]⟩ [c134 N,c148 N,c149 N,c152 N] N Tryz.func192
def c154:CtP:=ct ⟨(.pair TBlock (.pair TCorner (.pair (.slice tI) (.pair (.slice TSource) (.pair (.ptr TTiming) .nil))))),(.pair (.ptr Tgraph) (.pair (.slice tI) tN)),[false,true,false],F_185 N,false⟩ [] ⟨[],[],[(11,tI)],[]⟩ [c121 N,c123 N,c132 N,c141 N,c143 N,c145 N,c146 N,c153 N] N Tryz.func122
def c155:CtP:=ct ⟨(.pair (.ptr Tview) .nil),(.pair TTiming .nil),[true,true,true],F_186 N,false⟩ [] hnn [c134 N] N Tryz.func193
def c156:CtP:=ctB (.pair TSource (.pair (.ptr tI) .nil)) (.pair .bool .nil) (F_187 N) [] N Tryz.func218
def c157:CtP:=ct ⟨(.pair (.slice TSource) (.pair (.clo 218 (.pair (.ptr tI) .nil)) .nil)),tN,[false],F_188 N,false⟩ [218] ⟨[(0,⟨[.tmp 8 tI],[5]++rG 9 8++[18],[],[],[]⟩)],[],[],[]⟩ [c156 N] N Tryz.func217
def c158:CtP:=ct ⟨(.pair (.slice TSource) tN),(.pair TSource (.pair .bool .nil)),(rF 6),F_189 N,false⟩ [] ⟨[],[(1,[(3,some tI)])],[],[]⟩ [c157 N] N Tryz.func152
def c159:CtP:=ctB (.pair TLink (.pair (.ptr tI) .nil)) (.pair .bool .nil) (F_190 N) [] N Tryz.func266
def c160:CtP:=ct ⟨(.pair (.ptr Tgraph) (.pair (.clo 266 (.pair (.ptr tI) .nil)) .nil)),(.pair (.slice tI) .nil),[true],F_191 N,false⟩ [266] ⟨[(0,⟨[.tmp 16 tI,.row 0 tI],[6,7]++rG 17 21,[(5,tI)],[],[]⟩)],[],[],[]⟩ [c159 N] N Tryz.func253
def c161:CtP:=ct ⟨(.pair (.ptr Tgraph) tN),(.pair (.slice tI) .nil),[true],F_192 N,false⟩ [] ⟨[],[(1,[(3,some tI)])],[],[]⟩ [c160 N] N Tryz.func207
def c162:CtP:=ctB (.pair (.ptr Tview) (.pair TLink .nil)) tN (F_193 N) [] N Tryz.func220
def c163:CtP:=ct ⟨(.pair (.ptr Tview) (.pair TLink .nil)),(.pair TArc .nil),(rF 6),F_194 N,false⟩ [] hnn [] N Tryz.func270
def c164:CtP:=ctB tN (.pair .bool .nil) (F_195 N) [] N Tryz.func165
def c165:CtP:=ctB (.pair tI tN) (.pair .bool .nil) (F_196 N) [c164 N] N Tryz.func352
def c166:CtP:=ctB tN (.pair .bool .nil) (F_197 N) [] N Tryz.func353
def c167:CtP:=ct ⟨(.pair (.slice tI) tN),(.pair tI (.pair .bool .nil)),[false,false],F_198 N,false⟩ [] ⟨[(0,⟨[.tmp 7 tI,.tmp 8 tI],[9]++rG 13 18,[],[],[]⟩)],[],[],[]⟩ [c165 N,c166 N] N Tryz.func335
def c168:CtP:=ct ⟨(.pair (.slice tI) tN),(.pair (.slice TSpan) tN),[true,false],F_199 N,false⟩ [] hnn [c167 N] N Tryz.func311
def c169:CtP:=ctB (.pair tI (.pair tI tN)) tN (F_200 N) [] N Tryz.func272
def c170:CtP:=ctA (.pair TTable (.pair tI (.pair tI tN))) tN (F_201 N) ⟨[(0,⟨[.tmp 13 tI,.tmp 34 tI],[15,17]++rG 35 32,[],[],[]⟩),(2,⟨[.tmp 13 tI,.tmp 40 tI],[],[],[],[]⟩)],[],[],[]⟩ [c169 N,c168 N] N Tryz.func271
def c171:CtP:=ctB (.pair TCorner (.pair tI tN)) tN (F_202 N) [] N Tryz.func274
def c172:CtP:=ctB (.pair tI (.pair tI tN)) tN (F_203 N) [c169 N] N Tryz.func273
def c173:CtP:=ctB (.pair (.ptr Tview) (.pair TCorner (.pair tI (.pair tI tN)))) tN (F_204 N) [c162 N,c163 N,c170 N,c169 N,c172 N,c171 N] N Tryz.func219
def c174:CtP:=ctA tN tN (F_205 N) ⟨[(0,⟨[.tmp 3 tI,.tmp 4 tI],rG 5 17,[],[],[]⟩)],[],[],[]⟩ [] N Tryz.func312
def c175:CtP:=ctB (.pair tI (.pair tI tN)) tN (F_206 N) [c169 N,c174 N] N Tryz.func275
def c176:CtP:=ctB (.pair (.ptr Tview) (.pair tI (.pair tI tN))) tN (F_207 N) [c162 N,c163 N,c170 N,c175 N] N Tryz.func221
def c177:CtP:=ct ⟨(.pair (.ptr Tview) (.pair TCorner (.pair tI (.pair TSpan .nil)))),(.pair TSpan (.pair TSpan .nil)),(rF 4),F_208 N,false⟩ [] hnn [c173 N,c162 N,c176 N] N Tryz.func153
def c178:CtP:=ct ⟨(.pair TSpan (.pair TSpan .nil)),(.pair TSpan .nil),[false,false],F_209 N,false⟩ [] hnn [] N Tryz.func154
def c179:CtP:=ct ⟨(.pair TSpan (.pair TSpan .nil)),(.pair TSpan .nil),[false,false],F_210 N,false⟩ [] hnn [] N Tryz.func104
def S_31(N:Nat):FnSpec:=⟨.pair (.ptr Tgraph) (.pair TCorner (.pair (.slice TSource) (.pair TTiming tN))),(.pair .bool (.pair TSource .nil)),(rF 6),F_31 N,false⟩
theorem KI_257:CB 257:=cb Tryz.func257
def I_32:InF:=⟨257,Tryz.f257,⟨[],[],[],[]⟩,[],false⟩
theorem Z_31(N:Nat):SN 194 (S_31 N):=snd ⟨esP [c179 N,c158 N,c177 N,c178 N,c161 N],[],[I_32],[],[]⟩ ⟨[(0,⟨[.tmp 39 tI,.var 3 [some tI,some tI,some tI,some tI,some tI],.var 4 [some .bool]],[17,18,19,20]++rG 40 44,[],[],[]⟩)],[],[],[]⟩ N (ce _) Tryz.func194 (hi:=(q165 Tryz.func257 KI_257 q375))
def c180:CtP:=⟨(194,[]),S_31 N,Z_31 N,(cb Tryz.func194)⟩
def c181:CtP:=ct ⟨(.pair (.ptr Tgraph) (.pair TCorner (.pair (.slice TSource) (.pair (.slice tI) .nil)))),(.pair TTiming (.pair .bool .nil)),[true,true,true,false],F_211 N,false⟩ [] ⟨[(0,⟨[.tmp 22 tI,.row 2 .bool,.row 3 TSpan,.row 4 TSpan],[12,13,14]++rG 23 19++rG 43 18,[],[],[]⟩)],[],[],[(1,0,.bool),(1,1,TSpan),(1,2,TSpan)]⟩ [c155 N,c180 N,c138 N] N Tryz.func123
def c182:CtP:=ct ⟨(.pair TJob .nil),(.pair (.ptr Twork) tN),[false,false],F_212 N,false⟩ [] hnn [c154 N,c181 N] N Tryz.func89
def c183:CtP:=ctB tN (.pair .bool .nil) (F_213 N) [] N Tryz.func42
def c184:CtP:=ct ⟨(.pair TJob (.pair tI (.pair (.slice tI) .nil))),(.pair (.ptr Twork) tN),[false,false],F_214 N,false⟩ [] hnn [c183 N,c182 N,c80 N,c134 N] N Tryz.func74
def c185:CtP:=ctB (.pair (.ptr Tview) tN) (.pair .bool .nil) (F_215 N) [c66 N,c142 N] N Tryz.func269
def c186:CtP:=ctA (.pair (.ptr Tview) (.pair (.slice tI) .nil)) (.pair .bool .nil) (F_216 N) ⟨[(0,⟨[.tmp 9 tI],[5,6]++rG 10 36,[],[],[]⟩)],[],[],[]⟩ [c185 N] N Tryz.func215
def c187:CtP:=ctB (.pair tI (.pair (.ptr (.ptr Twork)) .nil)) (.pair .bool .nil) (F_217 N) [] N Tryz.func216
def c188:CtP:=ct ⟨(.pair (.slice tI) (.pair (.clo 216 (.pair (.ptr (.ptr Twork)) .nil)) .nil)),tN,[false],F_218 N,false⟩ [216] ⟨[(0,⟨[.tmp 8 tI],[5]++rG 9 8++[18],[],[],[]⟩)],[],[],[]⟩ [c187 N] N Tryz.func267
def c189:CtP:=ct ⟨(.pair (.slice tI) (.pair (.clo 216 (.pair (.ptr (.ptr Twork)) .nil)) .nil)),(.pair .bool .nil),[false],F_219 N,false⟩ [216] hnn [c188 N] N Tryz.func211
def c190:CtP:=ctA (.pair (.ptr Twork) (.pair tI (.pair (.slice tI) .nil))) (.pair .bool .nil) (F_220 N) ⟨[],[(6,[(3,some (.ptr Twork))])],[],[]⟩ [c158 N,c189 N,c186 N] N Tryz.func150
def c191:CtP:=ct ⟨(.pair TJob (.pair tI (.pair tI (.pair (.slice tI) .nil)))),(.pair (.ptr Twork) tN),[false,false],F_221 N,false⟩ [] hnn [c184 N,c190 N] N Tryz.func85
def c192:CtP:=ct ⟨(.pair (.ptr Twork) (.pair tI (.pair (.slice tI) .nil))),(.pair (.slice TSpan) .nil),[true],F_222 N,false⟩ [] ⟨[(0,⟨[.tmp 31 tI,.var 1 [some tI,some tI],.row 2 TSpan],[12,13,14,28]++rG 32 49,[],[],[]⟩)],[],[],[]⟩ [c158 N,c177 N,c178 N] N Tryz.func83
def c193:CtP:=ctB (.pair TDesign (.pair TLibrary (.pair Tl05Place .nil))) (.pair .str .nil) (F_223 N) [] N Tryz.func223
def c194:CtP:=ctB (.pair (.ptr Tview) tN) (.pair .str .nil) (F_224 N) [c193 N] N Tryz.func156
def c195:CtP:=ctB (.pair TSpan tN) tN (F_225 N) [] N Tryz.func44
def c196:CtP:=⟨(276,[]),q146 N,q292 N,q289⟩
def c197:CtP:=ctB tN (.pair .str .nil) (F_226 N) [c196 N] N Tryz.func224
def c198:CtP:=⟨(225,[]),q207 N,q399 N,q400⟩
def c199:CtP:=ctB tN (.pair .str .nil) (F_227 N) [c197 N,c198 N] N Tryz.func157
def S_33(N:Nat):FnSpec:=⟨.pair (.ptr Twork) (.pair tI (.pair (.slice tI) tN)),(.pair .str .nil),[false],F_33 N,false⟩
theorem Z_33(N:Nat):SN 86 (S_33 N):=snd ⟨esP [c195 N,c192 N,c194 N,c199 N],[],[],[(0,q40),(1,q57)],[]⟩ ⟨[(0,⟨[.tmp 10 .str,.tmp 44 tI],[11,12,13,14]++rG 45 65,[],[],[]⟩)],[],[],[]⟩ N (ce _) Tryz.func86 (ht:=q705)
def c200:CtP:=⟨(86,[]),S_33 N,Z_33 N,(cb Tryz.func86)⟩
def c201:CtP:=ct ⟨(.pair TJob (.pair tI (.pair (.slice tI) tN))),(.pair .str tN),[false,false],F_228 N,false⟩ [] hnn [c191 N,c200 N] N Tryz.func32
def c202:CtP:=ctB tN (.pair .bool .nil) (F_229 N) [] N Tryz.func46
def c203:CtP:=ct ⟨(.pair (.ptr Tl20Work) tN),(.pair TSource (.pair .bool .nil)),(rF 6),F_230 N,false⟩ [] ⟨[(0,⟨[.tmp 6 tI],rG 7 21,[],[],[]⟩)],[],[],[]⟩ [] N Tryz.func148
def c204:CtP:=ct ⟨(.pair (.ptr Tl20Work) (.pair tI (.pair (.slice tI) .nil))),(.pair tI (.pair .bool .nil)),[false,false],F_231 N,false⟩ [] ⟨[(0,⟨[.tmp 10 tI,.tmp 11 tI],[12]++rG 20 52,[],[],[]⟩)],[],[],[]⟩ [c8 N,c203 N] N Tryz.func158
def c205:CtP:=ct ⟨(.pair TJob (.pair tI (.pair (.slice tI) tN))),(.pair (.ptr Tl20Work) tN),[false,false],F_232 N,false⟩ [] hnn [c202 N,c62 N,c204 N] N Tryz.func87
def c206:CtP:=ct ⟨(.pair TLibrary (.pair TDesign tN)),(.pair Tl05Place (.pair .bool .nil)),(rF 5),F_233 N,false⟩ [] hnn [c8 N,c3 N,c20 N] N Tryz.func283
def c207:CtP:=ctB (.pair TLibrary (.pair TDesign (.pair Tl05Place .nil))) (.pair .str .nil) (F_234 N) [] N Tryz.func284
def c208:CtP:=ctB (.pair TLibrary (.pair TDesign tN)) (.pair .str .nil) (F_235 N) [c206 N,c207 N] N Tryz.func226
def c209:CtP:=ctB (.pair TBlock tN) (.pair .str .nil) (F_236 N) [c28 N,c22 N,c8 N,c208 N] N Tryz.func159
def c210:CtP:=ctB (.pair TSpan tN) tN (F_237 N) [] N Tryz.func47
def c211:CtP:=ctB (.pair (.ptr Tl20Work) (.pair tI tN)) tN (F_238 N) [c210 N,c57 N] N Tryz.func160
def c212:CtP:=ctA (.pair (.ptr Tl20Work) (.pair tI (.pair (.slice tI) tN))) tN (F_239 N) ⟨[(0,⟨[.tmp 11 tI,.tmp 12 tI],rG 23 15,[],[],[]⟩)],[],[],[]⟩ [c210 N,c203 N,c211 N] N Tryz.func142
def S_34(N M:Nat):FnSpec:=⟨tN,(.pair .str .nil),[false],F_34 N M,false⟩
def C_34(N M:Nat):Ctx:=⟨[((77,[]),(c8 N).S),((93,[]),S_8 N N),((36,[]),S_34 N M)],[],[],[],[]⟩
theorem K_34:CB 36:=cb Tryz.func36
theorem Z_34(N:Nat):∀ M,SN 36 (S_34 N M)
 | 0=>fun w args x r ok _ _ _ h=>nomatch (show none=some r from h)
 | M+1=>snd (C_34 N M) ⟨[],[],[],[]⟩ N (q413 (wk (c8 N).z) (cb Tryz.func77) (q413 (wk (Z_8 N N)) K_8 (q413 (Z_34 N M) K_34 q105))) Tryz.func36
def c213(N M:Nat):CtP:=⟨(36,[]),S_34 N M,Z_34 N M,K_34⟩
def c214:CtP:=ctA (.pair (.ptr Tl20Work) (.pair tI (.pair (.slice tI) tN))) (.pair .str .nil) (F_240 N) ⟨[(0,⟨[.tmp 9 .str,.tmp 10 tI],[11,12]++rG 36 53,[],[],[]⟩)],[],[],[]⟩ [c213 N N,c212 N,c209 N,c211 N] N Tryz.func88
def c215:CtP:=ct ⟨(.pair TJob (.pair tI (.pair (.slice tI) tN))),(.pair .str tN),[false,false],F_241 N,false⟩ [] hnn [c205 N,c214 N] N Tryz.func33
def c216:CtP:=ctB (.pair Tl05Place (.pair (.ptr TDesign) (.pair (.ptr TLibrary) (.pair (.ptr .str) .nil)))) (.pair .bool .nil) (F_242 N) [c193 N] N Tryz.func290
def c217:CtP:=ct ⟨(.pair (.slice Tl05Place) (.pair (.clo 290 (.pair (.ptr TDesign) (.pair (.ptr TLibrary) (.pair (.ptr .str) .nil)))) .nil)),tN,[false],F_243 N,false⟩ [290] ⟨[(0,⟨[.tmp 8 tI],[5]++rG 9 8++[18],[],[],[]⟩)],[],[],[]⟩ [c216 N] N Tryz.func289
def c218:CtP:=ctA (.pair TDesign (.pair TLibrary (.pair .str .nil))) tN (F_244 N) ⟨[],[(1,[(3,some TDesign),(4,some TLibrary),(5,some .str)])],[],[]⟩ [c118 N,c217 N] N Tryz.func231
def c219:CtP:=⟨(230,[]),q304 N,q526 N,q529⟩
def c220:CtP:=ctB (.pair (.ptr Tview) (.pair .str .nil)) tN (F_245 N) [c71 N,c219 N,c218 N] N Tryz.func162
def S_35(N:Nat):FnSpec:=⟨.pair (.ptr Twork) (.pair (.slice .str) .nil),(.pair TPath (.pair .bool .nil)),[false,true,false,false],F_35 N,false⟩
theorem KI_163:CB 163:=cb Tryz.func163
def I_36:InF:=⟨163,Tryz.f163,⟨[(0,⟨[.tmp 8 tI],[5]++rG 9 8++[18],[],[],[]⟩)],[],[],[]⟩,[],false⟩
theorem KI_164:CB 164:=cb Tryz.func164
def I_37:InF:=⟨164,Tryz.f164,⟨[],[],[],[]⟩,[],false⟩
def c221:CtP:=⟨(90,[]),q215 N,q456 N,q454⟩
theorem Z_35(N:Nat):SN 92 (S_35 N):=snd ⟨esP [c221 N,c190 N,c220 N],[],[I_36,I_37],[],[]⟩ ⟨[(0,⟨[.tmp 15 tI,.var 1 [some tI,none,some tI],.var 2 [some tI],.row 3 tI],[8,9,10,11]++rG 16 9++rG 26 16++[64,12]++rG 42 14++rG 57 7,[],[(1,1,tI),(1,1,tI)],[]⟩)],[],[],[(0,1,tI)]⟩ N (ce _) Tryz.func92 (hi:=(q165 Tryz.func163 KI_163 (q165 Tryz.func164 KI_164 q375)))
def c222:CtP:=⟨(92,[]),S_35 N,Z_35 N,(cb Tryz.func92)⟩
def c223:CtP:=ct ⟨(.pair (.ptr Twork) (.pair tI (.pair (.slice tI) .nil))),(.pair TSpan .nil),[false,false],F_246 N,false⟩ [] hnn [c192 N] N Tryz.func81
def S_38(N:Nat):FnSpec:=⟨.pair TJob (.pair .str .nil),(.pair TPath (.pair tI tN)),[false,true,false,false,false],F_38 N,false⟩
theorem KI_91:CB 91:=cb Tryz.func91
def I_39:InF:=⟨91,Tryz.f91,⟨[(0,⟨[.tmp 8 tI],[5]++rG 9 8++[18],[],[],[]⟩)],[],[],[]⟩,[],false⟩
theorem Z_38(N:Nat):SN 34 (S_38 N):=snd ⟨esP [c195 N,c223 N,c200 N,c182 N,c221 N,c222 N],[],[I_39],[(0,q40),(1,q57)],[]⟩ ⟨[],[],[],[(1,1,tI)]⟩ N (ce _) Tryz.func34 (hi:=(q165 Tryz.func91 KI_91 q375)) (ht:=q705)
def c224:CtP:=⟨(34,[]),S_38 N,Z_38 N,(cb Tryz.func34)⟩
def c225:CtP:=ct ⟨(.pair TJob (.pair tI (.pair (.slice tI) tN))),(.pair tI tN),[false,false],F_247 N,false⟩ [] hnn [c195 N,c223 N,c191 N] N Tryz.func35
end
end Go.Proofs.YtcmhpcoiomdekaaGreatDoor
