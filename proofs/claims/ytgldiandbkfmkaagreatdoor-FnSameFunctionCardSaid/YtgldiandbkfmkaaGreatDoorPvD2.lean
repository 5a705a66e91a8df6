/- The functions' contracts. Printed by my dec.py. No condition of its own. -/
import Derived.Test.YtgldiandbkfmkaaGreatDoorPvD1
namespace Go.Proofs.YtgldiandbkfmkaaGreatDoor
open Go.RowKit
set_option maxRecDepth 100000
set_option linter.unusedVariables false
def S_117(N:Nat):FnSpec:=⟨.pair TBlock tN,(.pair (.slice tI) tN),[false,false],F_117 N,false⟩
theorem K_117:CB 15:=cb Tryz.func15
theorem Z_117(N:Nat):SN 15 (S_117 N):=snd ⟨[((46,[]),S_108 N),((55,[]),S_116 N)],[11],[],[],[]⟩ ⟨[],[],[],[]⟩ N ((q8 (Z_108 N) K_108 (q8 (Z_116 N) K_116 q11))) Tryz.func15
def S_118(N:Nat):FnSpec:=⟨.pair (.ptr Tlogic) tN,(.pair (.slice tI) (.pair (.slice tI) (.pair .bool .nil))),[true,false,false],F_118 N,false⟩
theorem KI_62:CB 62:=cb Tryz.func62
noncomputable def I_119:InF:=⟨62,Tryz.f62,⟨[(0,⟨[.tmp 13 tI,.var 2 [none],.row 4 tI],[6,7,8,9]++rG 14 24,[],[(2,0,tI)],[]⟩),
 (2,⟨[.tmp 19 tI,.map 5 tI],[],[],[],[]⟩)],[],[],[]⟩,[],false⟩
theorem KI_118:CB 118:=cb Tryz.func118
noncomputable def I_120:InF:=⟨118,Tryz.f118,⟨[],[],[],[]⟩,[],false⟩
theorem K_118:CB 56:=cb Tryz.func56
theorem Z_118(N:Nat):SN 56 (S_118 N):=snd ⟨[((49,[]),S_110 N),((55,[]),S_116 N)],[],[I_119,I_120],[],[]⟩ ⟨[],[],[(4,tI)],[]⟩ N ((q8 (Z_110 N) K_110 (q8 (Z_116 N) K_116 q11))) Tryz.func56 (hi:=(q70 Tryz.func62 KI_62 (q70 Tryz.func118 KI_118 q206)))
def S_121(N:Nat):FnSpec:=⟨.pair TBlock tN,(.pair (.slice tI) tN),[true,false],F_121 N,false⟩
theorem Z_121(N:Nat):SN 16 (S_121 N):=snd ⟨[((46,[]),S_108 N),((56,[]),S_118 N)],[14],[],[],[]⟩ ⟨[],[],[(4,tI)],[]⟩ N ((q8 (Z_108 N) K_108 (q8 (Z_118 N) K_118 q11))) Tryz.func16
def S_122(N:Nat):FnSpec:=⟨.pair (.slice (.int .u8)) .nil,(.pair .bool .nil),[false],F_122 N,false⟩
theorem KI_13:CB 13:=cb Tryz.func13
noncomputable def I_123:InF:=⟨13,Tryz.f13,⟨[(0,⟨[.tmp 6 tI,.var 5 [some (.slice (.int .u8)),some tI,some (.int .u64)]],rG 16 21,[],[],[]⟩)],[],[],[]⟩,[],false⟩
noncomputable def L_122(N:Nat):MarkL:=[]
theorem Z_122(N:Nat):SN 3 (S_122 N):=sndX ⟨[((9,[]),S_0 N),((10,[]),S_45 N),((11,[]),S_111 N),((12,[]),S_114 N),((15,[]),S_117 N),((16,[]),S_121 N),((17,[]),S_44 N)],[],[I_123],[],[(14,.vio (S_115 N))]⟩ (L_122 N) ⟨[(0,⟨[.tmp 16 tI,.tmp 17 tI,.tmp 18 tI],[19]++rG 118 33,[],[],[]⟩),(2,⟨[.tmp 16 tI,.tmp 19 tI],[],[],[],[]⟩)],[],[],[]⟩ N ((q8 (Z_0 N) K_0 (q8 (Z_45 N) (cb Tryz.func10) (q8 (Z_111 N) (cb Tryz.func11) (q8 (Z_114 N) (cb Tryz.func12) (q8 (Z_117 N) K_117 (q8 (Z_121 N) (cb Tryz.func16) (q8 (Z_44 N) K_44 q11)))))))) (q24) ((q19 (Z_115 N) (cb Tryz.func14) q41)) Tryz.func3 (hi:=(q70 Tryz.func13 KI_13 q206))
def S_124(N:Nat):VioSpec:=⟨Tl01Source,(.pair TBlock .nil),tN,[],fun v x=>F_124 N (v,x),false⟩
theorem K_124:CB 58:=cb Tryz.func58
noncomputable def L_124(N:Nat):MarkL:=[]
theorem Z_124(N:Nat):VioOk Tryz.prog 58 (S_124 N):=sndV ⟨[],[],[],[],[(45,.vio (S_1 N))]⟩ (L_124 N) ⟨[],[],[],[]⟩ N (q11) (q24) ((q19 (Z_1 N) K_1 q41)) Tryz.func58
def S_125(N:Nat):FnSpec:=⟨.pair (.slice (.int .u8)) .nil,(.pair TBlock tN),[false,false,false,false,false,false],F_125 N,false⟩
noncomputable def I_126:InF:=⟨43,Tryz.f43,⟨[(0,⟨[.tmp 4 tI,.var 2 [some (.slice (.int .u8)),some tI,some tI]],rG 8 25,[],[],[]⟩)],[],[],[]⟩,[],false⟩
noncomputable def L_125(N:Nat):MarkL:=[]
theorem Z_125(N:Nat):SN 119 (S_125 N):=sndX ⟨[],[],[I_126],[],[(44,.vio (S_19 N)),(58,.vio (S_124 N))]⟩ (L_125 N) ⟨[],[],[],[]⟩ N (q11) (q24) ((q19 (Z_19 N) K_19 (q19 (Z_124 N) K_124 q41))) Tryz.func119 (hi:=(q70 Tryz.func43 KI_43 q206))
def S_127(N:Nat):FnSpec:=⟨.pair (.slice (.int .u8)) .nil,(.pair TBlock (.pair tI tN)),[false,false,false,false,false,false,false],F_127 N,false⟩
noncomputable def I_128:InF:=⟨43,Tryz.f43,⟨[(0,⟨[.tmp 4 tI,.var 4 [none,some tI,some tI]],rG 8 25,[],[],[]⟩)],[],[],[]⟩,[],false⟩
theorem K_127:CB 57:=cb Tryz.func57
noncomputable def L_127(N:Nat):MarkL:=[]
theorem Z_127(N:Nat):SN 57 (S_127 N):=sndX ⟨[((17,[]),S_44 N),((119,[]),S_125 N)],[],[I_128],[],[(45,.vio (S_1 N)),(58,.vio (S_124 N))]⟩ (L_127 N) ⟨[],[(6,[(17,none)])],[],[]⟩ N ((q8 (Z_44 N) K_44 (q8 (Z_125 N) (cb Tryz.func119) q11))) (q24) ((q19 (Z_1 N) K_1 (q19 (Z_124 N) K_124 q41))) Tryz.func57 (hi:=(q70 Tryz.func43 KI_43 q206))
def S_129(N:Nat):FnSpec:=⟨.pair (.slice (.int .u8)) .nil,(.pair TBlock (.pair tI tN)),[false,false,false,false,false,false,false],F_129 N,false⟩
noncomputable def I_130:InF:=⟨43,Tryz.f43,⟨[(0,⟨[.tmp 4 tI,.var 4 [none,some tI,some tI]],rG 8 25,[],[],[]⟩)],[],[],[]⟩,[],false⟩
noncomputable def L_129(N:Nat):MarkL:=[]
theorem Z_129(N:Nat):SN 18 (S_129 N):=sndX ⟨[((57,[]),S_127 N)],[],[I_130],[],[(45,.vio (S_1 N)),(58,.vio (S_124 N))]⟩ (L_129 N) ⟨[],[(3,[(17,none)])],[],[]⟩ N ((q8 (Z_127 N) K_127 q11)) (q24) ((q19 (Z_1 N) K_1 (q19 (Z_124 N) K_124 q41))) Tryz.func18 (hi:=(q70 Tryz.func43 KI_43 q206))
def S_131(N:Nat):FnSpec:=⟨.pair (.slice (.slice tI)) .nil,(.pair (.slice tI) .nil),[true],F_131 N,false⟩
theorem KI_120:CB 120:=cb Tryz.func120
noncomputable def I_132:InF:=⟨120,Tryz.f120,⟨[],[],[],[]⟩,[],false⟩
theorem Z_131(N:Nat):SN 59 (S_131 N):=snd ⟨[],[],[I_132],[],[]⟩ ⟨[(0,⟨[.tmp 3 tI,.tmp 11 tI],[5]++rG 12 9++[22],[],[],[]⟩),(2,⟨[.tmp 27 tI,.row 1 tI],[8]++rG 28 7,[(6,tI)],[],[]⟩)],[],[],[]⟩ N q11 Tryz.func59 (hi:=(q70 Tryz.func120 KI_120 q206))
def S_133(N:Nat):FnSpec:=⟨.pair TBlock (.pair tI tN),(.pair .bool tN),[false,false],F_133 N,false⟩
theorem KI_46:CB 46:=cb Tryz.func46
noncomputable def I_134:InF:=⟨46,Tryz.f46,⟨[],[],[],[]⟩,[],false⟩
noncomputable def I_135:InF:=⟨62,Tryz.f62,⟨[(0,⟨[.tmp 13 tI,.var 9 [some .bool]],[6,7,8,9]++rG 14 24,[],[],[]⟩),
 (2,⟨[.tmp 19 tI,.map 11 tI],[],[],[],[]⟩)],[],[],[]⟩,[],false⟩
theorem KI_63:CB 63:=cb Tryz.func63
noncomputable def I_136:InF:=⟨63,Tryz.f63,⟨[],[],[],[]⟩,[],false⟩
noncomputable def L_133(N:Nat):MarkL:=[]
theorem Z_133(N:Nat):SN 19 (S_133 N):=sndX ⟨[((48,[]),S_59 N),((49,[]),S_110 N),((55,[]),S_116 N),((59,[]),S_131 N),((107,[]),S_100 N),((108,[]),S_103 N),((109,[]),S_55 N)],[],[I_134,I_135,I_136],[],[(60,.io q95),(61,.row q79)]⟩ (L_133 N) ⟨[],[],[],[]⟩ N ((q8 (Z_59 N) K_59 (q8 (Z_110 N) K_110 (q8 (Z_116 N) K_116 (q8 (Z_131 N) (cb Tryz.func59) (q8 (Z_100 N) K_100 (q8 (Z_103 N) K_103 (q8 (Z_55 N) K_55 q11)))))))) (q24) ((q19 (q160) q148 (q19 (q114) q113 q41))) Tryz.func19 (hi:=(q70 Tryz.func46 KI_46 (q70 Tryz.func62 KI_62 (q70 Tryz.func63 KI_63 q206))))
def S_137(N:Nat):FnSpec:=⟨.pair TBlock tN,tN,[false],F_137 N,false⟩
theorem K_137:CB 64:=cb Tryz.func64
theorem Z_137(N:Nat):SN 64 (S_137 N):=snd ⟨[((50,[]),S_42 N),((52,[]),S_21 N)],[],[],[],[]⟩ ⟨[],[],[],[]⟩ N ((q8 (Z_42 N) K_42 (q8 (Z_21 N) K_21 q11))) Tryz.func64
def S_138(N M:Nat):IoSpec:=⟨(.pair TBlock (.pair tI (.pair (.slice .bool) (.pair (.slice .bool) .nil)))),[false,false,true,true],.nil,(.pair (.slice .bool) (.pair (.slice .bool) .nil)),F_138 N M⟩
noncomputable def C_138(N M:Nat):Ctx:=⟨[((116,[]),S_38 N),((117,[]),S_39 N)],[],[],[],[(65,.io (S_138 N M))]⟩
theorem K_138:CB 65:=cb Tryz.func65
noncomputable def L_138(N:Nat):MarkL:=[]
theorem Z_138(N:Nat):∀ M,IoOk Tryz.prog 65 (S_138 N M)
 | 0=>fun w args x r ys ok R _ _ _ _ h=>nomatch (show none=some (r,ys) from h)
 | M+1=>sndIO (C_138 N M) (L_138 N) ⟨[(0,⟨[.tmp 10 tI,.row 0 .bool,.row 1 .bool],rG 29 14,[],[],[]⟩)],[],[],[]⟩ N ((q8 (Z_38 N) K_38 (q8 (Z_39 N) K_39 q11))) (q24) ((q19 (Z_138 N M) K_138 q41)) Tryz.func65
def S_139(N:Nat):FnSpec:=⟨.pair (.slice .bool) .nil,(.pair (.slice tI) .nil),[true],F_139 N,false⟩
theorem K_139:CB 66:=cb Tryz.func66
theorem Z_139(N:Nat):SN 66 (S_139 N):=snd ⟨[],[],[],[],[]⟩ ⟨[(0,⟨[.tmp 4 tI,.row 0 tI],rG 5 15,[],[],[]⟩)],[],[],[]⟩ N q11 Tryz.func66
def S_140(N:Nat):FnSpec:=⟨tN,tN,[false],F_140 N,false⟩
theorem K_140:CB 123:=cb Tryz.func123
theorem Z_140(N:Nat):SN 123 (S_140 N):=snd ⟨[],[],[],[],[]⟩ ⟨[(0,⟨[.tmp 3 tI,.tmp 4 tI],rG 5 7,[],[],[]⟩)],[],[],[]⟩ N q11 Tryz.func123
def S_141(N:Nat):FnSpec:=⟨.pair tI tN,(.pair (.slice tI) .nil),[true],F_141 N,false⟩
theorem Z_141(N:Nat):SN 124 (S_141 N):=snd ⟨[],[],[],[],[]⟩ ⟨[(0,⟨[.tmp 0 tI,.tmp 6 tI,.row 0 tI],rG 7 13,[],[],[]⟩)],[],[],[]⟩ N q11 Tryz.func124
def S_142(N:Nat):FnSpec:=⟨.pair TBlock (.pair tI (.pair (.slice tI) .nil)),(.pair (.slice tI) .nil),[true],F_142 N,false⟩
theorem K_142:CB 67:=cb Tryz.func67
noncomputable def L_142(N:Nat):MarkL:=[]
theorem Z_142(N:Nat):SN 67 (S_142 N):=sndX ⟨[((53,[]),S_112 N),((123,[]),S_140 N),((124,[]),S_141 N)],[],[],[],[(54,.io (S_113 N N))]⟩ (L_142 N) ⟨[(0,⟨[.tmp 8 tI,.row 1 tI],rG 9 21,[],[],[]⟩)],[],[],[]⟩ N ((q8 (Z_112 N) K_112 (q8 (Z_140 N) K_140 (q8 (Z_141 N) (cb Tryz.func124) q11)))) (q24) ((q19 (Z_113 N N) K_113 q41)) Tryz.func67
def S_143(N:Nat):FnSpec:=⟨.pair TBlock (.pair tI tN),(.pair .bool tN),[false,false],F_143 N,false⟩
noncomputable def L_143(N:Nat):MarkL:=[]
theorem Z_143(N:Nat):SN 20 (S_143 N):=sndX ⟨[((64,[]),S_137 N),((66,[]),S_139 N),((67,[]),S_142 N)],[],[],[],[(65,.io (S_138 N N))]⟩ (L_143 N) ⟨[(0,⟨[.tmp 15 tI],rG 57 15,[],[],[]⟩)],[],[],[]⟩ N ((q8 (Z_137 N) K_137 (q8 (Z_139 N) K_139 (q8 (Z_142 N) K_142 q11)))) (q24) ((q19 (Z_138 N N) K_138 q41)) Tryz.func20
def S_144(N:Nat):FnSpec:=⟨.pair tI tN,tN,[false],F_144 N,false⟩
theorem K_144:CB 126:=cb Tryz.func126
theorem Z_144(N:Nat):SN 126 (S_144 N):=snd ⟨[],[],[],[],[]⟩ ⟨[(0,⟨[.tmp 0 tI,.tmp 1 tI],rG 5 6,[],[],[]⟩)],[],[],[]⟩ N q11 Tryz.func126
def S_145(N:Nat):FnSpec:=⟨.pair TSpan .nil,(.pair .bool .nil),[false],F_145 N,false⟩
theorem Z_145(N:Nat):SN 176 (S_145 N):=snd ⟨[((112,[]),S_47 N),((126,[]),S_144 N)],[],[],[],[]⟩ ⟨[],[],[],[]⟩ N ((q8 (Z_47 N) K_47 (q8 (Z_144 N) K_144 q11))) Tryz.func176
def S_146(N:Nat):FnSpec:=⟨.pair TActivity .nil,(.pair .bool .nil),[false],F_146 N,false⟩
theorem Z_146(N:Nat):SN 175 (S_146 N):=snd ⟨[((112,[]),S_47 N),((176,[]),S_145 N)],[],[],[],[]⟩ ⟨[],[],[],[]⟩ N ((q8 (Z_47 N) K_47 (q8 (Z_145 N) (cb Tryz.func176) q11))) Tryz.func175
def S_147(N:Nat):FnSpec:=⟨.pair (.slice TActivity) (.pair (.clo 175 .nil) .nil),tN,[false],F_147 N,false⟩
theorem Z_147(N:Nat):SN 206 (S_147 N):=snd ⟨[((175,[]),S_146 N)],[],[],[],[]⟩ ⟨[(0,⟨[.tmp 8 tI],[5]++rG 9 8++[18],[],[],[]⟩)],[],[],[]⟩ N ((q8 (Z_146 N) (cb Tryz.func175) q11)) Tryz.func206
def S_148(N:Nat):FnSpec:=⟨.pair (.slice TActivity) (.pair (.clo 175 .nil) .nil),(.pair .bool .nil),[false],F_148 N,false⟩
theorem Z_148(N:Nat):SN 174 (S_148 N):=snd ⟨[((206,[175]),S_147 N)],[],[],[],[]⟩ ⟨[],[],[],[]⟩ N ((q8 (Z_147 N) (cb Tryz.func206) q11)) Tryz.func174
def S_149(N:Nat):FnSpec:=⟨.pair (.ptr Tlogic) (.pair (.slice TActivity) .nil),(.pair .bool .nil),[false],F_149 N,false⟩
theorem Z_149(N:Nat):SN 125 (S_149 N):=snd ⟨[((47,[]),S_109 N),((174,[175]),S_148 N)],[],[],[],[]⟩ ⟨[],[],[],[]⟩ N ((q8 (Z_109 N) K_109 (q8 (Z_148 N) (cb Tryz.func174) q11))) Tryz.func125
def S_150(N:Nat):FnSpec:=⟨.pair TBlock (.pair (.slice TActivity) (.pair (.slice tI) .nil)),(.pair (.ptr Tchances) tN),[false,false],F_150 N,false⟩
theorem K_150:CB 68:=cb Tryz.func68
theorem Z_150(N:Nat):SN 68 (S_150 N):=snd ⟨[((46,[]),S_108 N),((47,[]),S_109 N),((125,[]),S_149 N)],[],[],[],[]⟩ ⟨[(1,⟨[.tmp 35 tI,.map 1 TActivity],[11,12]++rG 36 14,[],[],[]⟩)],[],[],[]⟩ N ((q8 (Z_108 N) K_108 (q8 (Z_109 N) K_109 (q8 (Z_149 N) (cb Tryz.func125) q11)))) Tryz.func68
def S_151(N:Nat):FnSpec:=⟨.pair (.ptr Tchances) (.pair (.slice tI) (.pair tI tN)),tN,[false],F_151 N,false⟩
theorem K_151:CB 69:=cb Tryz.func69
theorem Z_151(N:Nat):SN 69 (S_151 N):=snd ⟨[],[],[],[],[]⟩ ⟨[(0,⟨[.tmp 15 tI,.tmp 9 tI],[10,11,12]++rG 16 11++[34,35,36,37,48]++rG 38 10++rG 27 7,[],[],[]⟩)],[],[],[]⟩ N q11 Tryz.func69
def S_152(N:Nat):FnSpec:=⟨.pair (.ptr Tchances) (.pair (.slice tI) tN),tN,[false],F_152 N,false⟩
theorem K_152:CB 71:=cb Tryz.func71
theorem Z_152(N:Nat):SN 71 (S_152 N):=snd ⟨[],[],[],[],[]⟩ ⟨[(0,⟨[.tmp 7 tI,.tmp 12 tI],[8,9]++rG 13 18,[],[],[]⟩)],[],[],[]⟩ N q11 Tryz.func71
def S_153(N:Nat):FnSpec:=⟨.pair tI tN,(.pair TSpan .nil),[false,false],F_153 N,false⟩
theorem K_153:CB 70:=cb Tryz.func70
theorem Z_153(N:Nat):SN 70 (S_153 N):=snd ⟨[((126,[]),S_144 N)],[],[],[],[]⟩ ⟨[],[],[],[]⟩ N ((q8 (Z_144 N) K_144 q11)) Tryz.func70
def S_154(N:Nat):FnSpec:=⟨.pair TBlock (.pair (.slice TActivity) tN),(.pair TSpan tN),[false,false,false],F_154 N,false⟩
theorem Z_154(N:Nat):SN 21 (S_154 N):=snd ⟨[((56,[]),S_118 N),((68,[]),S_150 N),((69,[]),S_151 N),((70,[]),S_153 N),((71,[]),S_152 N)],[21],[],[],[]⟩ ⟨[(0,⟨[.tmp 13 tI,.tmp 44 tI],[14,15]++rG 45 13,[],[],[]⟩)],[],[],[]⟩ N ((q8 (Z_118 N) K_118 (q8 (Z_150 N) K_150 (q8 (Z_151 N) K_151 (q8 (Z_153 N) K_153 (q8 (Z_152 N) K_152 q11)))))) Tryz.func21
def S_155(N:Nat):FnSpec:=⟨.pair (.slice (.int .u8)) .nil,(.pair .bool .nil),[false],F_155 N,false⟩
theorem Z_155(N:Nat):SN 4 (S_155 N):=snd ⟨[((9,[]),S_0 N),((17,[]),S_44 N),((18,[]),S_129 N),((19,[]),S_133 N),((20,[]),S_143 N),((21,[]),S_154 N)],[],[],[],[]⟩ ⟨[(0,⟨[.tmp 15 tI,.row 2 TActivity],rG 81 15,[],[],[]⟩)],[],[],[]⟩ N ((q8 (Z_0 N) K_0 (q8 (Z_44 N) K_44 (q8 (Z_129 N) (cb Tryz.func18) (q8 (Z_133 N) (cb Tryz.func19) (q8 (Z_143 N) (cb Tryz.func20) (q8 (Z_154 N) (cb Tryz.func21) q11))))))) Tryz.func4
def S_156(N:Nat):FnSpec:=⟨.pair (.slice (.int .u8)) .nil,(.pair TBlock (.pair tI tN)),[false,false,false,false,false,false,false],F_156 N,false⟩
theorem Z_156(N:Nat):SN 22 (S_156 N):=snd ⟨[((57,[]),S_127 N)],[],[],[],[]⟩ ⟨[],[],[],[]⟩ N ((q8 (Z_127 N) K_127 q11)) Tryz.func22
def S_157(N:Nat):FnSpec:=⟨.pair (.slice tI) tN,tN,[false],F_157 N,false⟩
theorem K_157:CB 72:=cb Tryz.func72
theorem Z_157(N:Nat):SN 72 (S_157 N):=snd ⟨[],[],[],[],[]⟩ ⟨[(0,⟨[.tmp 8 tI],[5]++rG 9 8++[18],[],[],[]⟩)],[],[],[]⟩ N q11 Tryz.func72
def S_158(N:Nat):FnSpec:=⟨.pair TBlock (.pair tI tN),(.pair .bool tN),[false,false],F_158 N,false⟩
theorem Z_158(N:Nat):SN 23 (S_158 N):=snd ⟨[((46,[]),S_108 N),((56,[]),S_118 N),((72,[]),S_157 N)],[20],[],[],[]⟩ ⟨[(0,⟨[.tmp 43 tI],[14,15]++rG 44 14,[],[],[]⟩)],[],[],[]⟩ N ((q8 (Z_108 N) K_108 (q8 (Z_118 N) K_118 (q8 (Z_157 N) K_157 q11)))) Tryz.func23
def S_159(N:Nat):FnSpec:=⟨.pair TBlock tN,(.pair (.slice tI) .nil),[true],F_159 N,false⟩
noncomputable def L_159(N:Nat):MarkL:=[]
theorem Z_159(N:Nat):SN 73 (S_159 N):=sndX ⟨[((66,[]),S_139 N)],[],[],[],[(65,.io (S_138 N N))]⟩ (L_159 N) ⟨[],[],[],[]⟩ N ((q8 (Z_139 N) K_139 q11)) (q24) ((q19 (Z_138 N N) K_138 q41)) Tryz.func73
def S_160(N:Nat):FnSpec:=⟨.pair (.slice tI) tN,tN,[false],F_160 N,false⟩
theorem Z_160(N:Nat):SN 74 (S_160 N):=snd ⟨[],[],[],[],[]⟩ ⟨[(0,⟨[.tmp 5 tI],rG 6 12,[],[],[]⟩)],[],[],[]⟩ N q11 Tryz.func74
def S_161(N:Nat):FnSpec:=⟨tN,tN,[false],F_161 N,false⟩
theorem Z_161(N:Nat):SN 75 (S_161 N):=snd ⟨[((123,[]),S_140 N)],[],[],[],[]⟩ ⟨[],[],[],[]⟩ N ((q8 (Z_140 N) K_140 q11)) Tryz.func75
def S_162(N:Nat):FnSpec:=⟨.pair TBlock (.pair tI tN),(.pair .bool tN),[false,false],F_162 N,false⟩
theorem Z_162(N:Nat):SN 24 (S_162 N):=snd ⟨[((64,[]),S_137 N),((67,[]),S_142 N),((73,[]),S_159 N),((74,[]),S_160 N),((75,[]),S_161 N)],[],[],[],[]⟩ ⟨[(0,⟨[.tmp 13 tI],rG 41 24,[],[],[]⟩)],[],[],[]⟩ N ((q8 (Z_137 N) K_137 (q8 (Z_142 N) K_142 (q8 (Z_159 N) (cb Tryz.func73) (q8 (Z_160 N) (cb Tryz.func74) (q8 (Z_161 N) (cb Tryz.func75) q11)))))) Tryz.func24
def S_163(N:Nat):FnSpec:=⟨.pair (.ptr Tchances) (.pair (.slice tI) (.pair (.slice tI) tN)),tN,[false],F_163 N,false⟩
theorem Z_163(N:Nat):SN 76 (S_163 N):=snd ⟨[((69,[]),S_151 N)],[],[],[],[]⟩ ⟨[(0,⟨[.tmp 9 tI,.tmp 14 tI],[10,11]++rG 15 28,[],[],[]⟩)],[],[],[]⟩ N ((q8 (Z_151 N) K_151 q11)) Tryz.func76
def S_164(N:Nat):FnSpec:=⟨.pair TBlock (.pair (.slice TActivity) (.pair tI tN)),(.pair TSpan tN),[false,false,false],F_164 N,false⟩
theorem Z_164(N:Nat):SN 25 (S_164 N):=snd ⟨[((56,[]),S_118 N),((68,[]),S_150 N),((70,[]),S_153 N),((71,[]),S_152 N),((72,[]),S_157 N),((76,[]),S_163 N)],[22],[],[],[]⟩ ⟨[],[],[],[]⟩ N ((q8 (Z_118 N) K_118 (q8 (Z_150 N) K_150 (q8 (Z_153 N) K_153 (q8 (Z_152 N) K_152 (q8 (Z_157 N) K_157 (q8 (Z_163 N) (cb Tryz.func76) q11))))))) Tryz.func25
def S_165(N:Nat):FnSpec:=⟨.pair (.slice tI) tN,(.pair .bool .nil),[false],F_165 N,false⟩
theorem Z_165(N:Nat):SN 26 (S_165 N):=snd ⟨[],[],[],[],[]⟩ ⟨[(0,⟨[.tmp 5 tI],rG 6 12,[],[],[]⟩)],[],[],[]⟩ N q11 Tryz.func26
def S_166(N:Nat):FnSpec:=⟨.pair (.slice (.int .u8)) .nil,(.pair .bool .nil),[false],F_166 N,false⟩
theorem Z_166(N:Nat):SN 5 (S_166 N):=snd ⟨[((9,[]),S_0 N),((15,[]),S_117 N),((17,[]),S_44 N),((22,[]),S_156 N),((23,[]),S_158 N),((24,[]),S_162 N),((25,[]),S_164 N),((26,[]),S_165 N)],[],[],[],[]⟩ ⟨[(0,⟨[.tmp 15 tI,.row 2 TActivity],rG 72 12,[],[],[]⟩)],[],[],[]⟩ N ((q8 (Z_0 N) K_0 (q8 (Z_117 N) K_117 (q8 (Z_44 N) K_44 (q8 (Z_156 N) (cb Tryz.func22) (q8 (Z_158 N) (cb Tryz.func23) (q8 (Z_162 N) (cb Tryz.func24) (q8 (Z_164 N) (cb Tryz.func25) (q8 (Z_165 N) (cb Tryz.func26) q11))))))))) Tryz.func5
end Go.Proofs.YtgldiandbkfmkaaGreatDoor
