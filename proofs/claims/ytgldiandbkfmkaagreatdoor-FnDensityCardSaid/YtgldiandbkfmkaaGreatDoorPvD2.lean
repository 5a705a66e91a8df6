/- The functions' contracts. Printed by my dec.py. No condition of its own. -/
import Derived.Test.YtgldiandbkfmkaaGreatDoorPvD1
namespace Go.Proofs.YtgldiandbkfmkaaGreatDoor
open Go.RowKit
set_option maxRecDepth 100000
set_option linter.unusedVariables false
def S_125(N:Nat):FnSpec:=⟨.pair (.ptr Tlogic) .nil,(.pair (.slice (.slice tI)) .nil),[true],F_125 N,false⟩
theorem K_125:CB 55:=cb Tryz.func55
noncomputable def L_125(N:Nat):MarkL:=[]
theorem Z_125(N:Nat):SN 55 (S_125 N):=sndX ⟨[((113,[]),S_110 N)],[35],[],[],[(60,.io q128),(61,.row q100)]⟩ (L_125 N) ⟨[(0,⟨[.tmp 20 tI,.row 0 (.slice tI)],[5]++rG 21 16++[59,6,8]++rG 37 22,[],[],[]⟩),(2,⟨[.tmp 41 tI,.row 1 tI],[],[(6,tI)],[],[]⟩)],[],[],[]⟩ N ((q8 (Z_110 N) K_110 q11)) (q30) ((q22 (q283) q274 (q22 (q203) q204 q49))) Tryz.func55
def S_126(N:Nat):FnSpec:=⟨.pair (.ptr Tlogic) (.pair (.map tI) .nil),(.pair (.slice tI) .nil),[true],F_126 N,false⟩
theorem Z_126(N:Nat):SN 49 (S_126 N):=snd ⟨[((113,[]),S_110 N),((114,[]),S_109 N)],[],[],[],[]⟩ ⟨[(0,⟨[.tmp 22 tI,.row 0 tI],[7]++rG 23 17++[77,8,9,10]++rG 40 37,[],[],[]⟩),(2,⟨[.tmp 8 tI,.tmp 44 tI],[],[],[],[]⟩)],[],[],[]⟩ N ((q8 (Z_110 N) K_110 (q8 (Z_109 N) K_109 q11))) Tryz.func49
def S_127(N:Nat):FnSpec:=⟨.pair (.ptr Tlogic) tN,(.pair (.slice tI) (.pair (.slice tI) (.pair .bool .nil))),[true,false,false],F_127 N,false⟩
theorem KI_62:CB 62:=cb Tryz.func62
noncomputable def I_128:InF:=⟨62,Tryz.f62,⟨[(0,⟨[.tmp 13 tI,.var 2 [none],.row 4 tI],[6,7,8,9]++rG 14 24,[],[(2,0,tI)],[]⟩),
 (2,⟨[.tmp 19 tI,.map 5 tI],[],[],[],[]⟩)],[],[],[]⟩,[],false⟩
theorem KI_118:CB 118:=cb Tryz.func118
noncomputable def I_129:InF:=⟨118,Tryz.f118,⟨[],[],[],[]⟩,[],false⟩
theorem K_127:CB 56:=cb Tryz.func56
theorem Z_127(N:Nat):SN 56 (S_127 N):=snd ⟨[((49,[]),S_126 N),((55,[]),S_125 N)],[],[I_128,I_129],[],[]⟩ ⟨[],[],[(4,tI)],[]⟩ N ((q8 (Z_126 N) (cb Tryz.func49) (q8 (Z_125 N) K_125 q11))) Tryz.func56 (hi:=(q116 Tryz.func62 KI_62 (q116 Tryz.func118 KI_118 q398)))
def S_130(N:Nat):FnSpec:=⟨.pair (.slice tI) tN,tN,[false],F_130 N,false⟩
theorem Z_130(N:Nat):SN 72 (S_130 N):=snd ⟨[],[],[],[],[]⟩ ⟨[(0,⟨[.tmp 8 tI],[5]++rG 9 8++[18],[],[],[]⟩)],[],[],[]⟩ N q11 Tryz.func72
def S_131(N:Nat):FnSpec:=⟨.pair (.ptr Tchances) (.pair (.slice tI) (.pair tI tN)),tN,[false],F_131 N,false⟩
theorem Z_131(N:Nat):SN 69 (S_131 N):=snd ⟨[],[],[],[],[]⟩ ⟨[(0,⟨[.tmp 15 tI,.tmp 9 tI],[10,11,12]++rG 16 11++[34,35,36,37,48]++rG 38 10++rG 27 7,[],[],[]⟩)],[],[],[]⟩ N q11 Tryz.func69
def S_132(N:Nat):FnSpec:=⟨.pair (.ptr Tchances) (.pair (.slice tI) (.pair (.slice tI) tN)),tN,[false],F_132 N,false⟩
theorem K_132:CB 76:=cb Tryz.func76
theorem Z_132(N:Nat):SN 76 (S_132 N):=snd ⟨[((69,[]),S_131 N)],[],[],[],[]⟩ ⟨[(0,⟨[.tmp 9 tI,.tmp 14 tI],[10,11]++rG 15 28,[],[],[]⟩)],[],[],[]⟩ N ((q8 (Z_131 N) (cb Tryz.func69) q11)) Tryz.func76
def S_133(N:Nat):FnSpec:=⟨.pair (.ptr Tchances) (.pair (.slice tI) tN),tN,[false],F_133 N,false⟩
theorem K_133:CB 71:=cb Tryz.func71
theorem Z_133(N:Nat):SN 71 (S_133 N):=snd ⟨[],[],[],[],[]⟩ ⟨[(0,⟨[.tmp 7 tI,.tmp 12 tI],[8,9]++rG 13 18,[],[],[]⟩)],[],[],[]⟩ N q11 Tryz.func71
def S_134(N:Nat):FnSpec:=⟨.pair tI tN,(.pair TFraction .nil),[false,false],F_134 N,false⟩
theorem Z_134(N:Nat):SN 70 (S_134 N):=snd ⟨[((126,[]),S_118 N)],[],[],[],[]⟩ ⟨[],[],[],[]⟩ N ((q8 (Z_118 N) K_118 q11)) Tryz.func70
def S_135(N:Nat):FnSpec:=⟨.pair TBlock (.pair (.slice TActivity) (.pair tI tN)),(.pair TFraction tN),[false,false,false],F_135 N,false⟩
theorem Z_135(N:Nat):SN 25 (S_135 N):=snd ⟨[((56,[]),S_127 N),((68,[]),S_124 N),((70,[]),S_134 N),((71,[]),S_133 N),((72,[]),S_130 N),((76,[]),S_132 N)],[22],[],[],[]⟩ ⟨[],[],[],[]⟩ N ((q8 (Z_127 N) K_127 (q8 (Z_124 N) K_124 (q8 (Z_134 N) (cb Tryz.func70) (q8 (Z_133 N) K_133 (q8 (Z_130 N) (cb Tryz.func72) (q8 (Z_132 N) K_132 q11))))))) Tryz.func25
def S_136(N:Nat):FnSpec:=⟨.pair TBlock tN,tN,[false],F_136 N,false⟩
theorem Z_136(N:Nat):SN 64 (S_136 N):=snd ⟨[((50,[]),S_45 N),((52,[]),S_24 N)],[],[],[],[]⟩ ⟨[],[],[],[]⟩ N ((q8 (Z_45 N) K_45 (q8 (Z_24 N) K_24 q11))) Tryz.func64
def S_137(N:Nat):FnSpec:=⟨.pair TFraction .nil,(.pair .bool .nil),[false],F_137 N,false⟩
theorem K_137:CB 37:=cb Tryz.func37
theorem Z_137(N:Nat):SN 37 (S_137 N):=snd ⟨[((52,[]),S_24 N),((99,[]),S_50 N)],[],[],[],[]⟩ ⟨[],[],[],[]⟩ N ((q8 (Z_24 N) K_24 (q8 (Z_50 N) K_50 q11))) Tryz.func37
def S_138(N:Nat):FnSpec:=⟨.pair TBlock (.pair (.slice TActivity) .nil),(.pair .bool .nil),[false],F_138 N,false⟩
theorem Z_138(N:Nat):SN 92 (S_138 N):=snd ⟨[((37,[]),S_137 N),((50,[]),S_45 N),((51,[]),S_46 N),((52,[]),S_24 N)],[],[],[],[]⟩ ⟨[(0,⟨[.tmp 5 tI],rG 17 31,[],[],[]⟩)],[],[],[]⟩ N ((q8 (Z_137 N) K_137 (q8 (Z_45 N) K_45 (q8 (Z_46 N) K_46 (q8 (Z_24 N) K_24 q11))))) Tryz.func92
def S_139(N M:Nat):IoSpec:=⟨(.pair TBlock (.pair tI (.pair (.slice .bool) (.pair (.slice .bool) .nil)))),[false,false,true,true],.nil,(.pair (.slice .bool) (.pair (.slice .bool) .nil)),F_139 N M⟩
noncomputable def C_139(N M:Nat):Ctx:=⟨[((116,[]),S_41 N),((117,[]),S_42 N)],[],[],[],[(65,.io (S_139 N M))]⟩
theorem K_139:CB 65:=cb Tryz.func65
noncomputable def L_139(N:Nat):MarkL:=[]
theorem Z_139(N:Nat):∀ M,IoOk Tryz.prog 65 (S_139 N M)
 | 0=>fun w args x r ys ok R _ _ _ _ h=>nomatch (show none=some (r,ys) from h)
 | M+1=>sndIO (C_139 N M) (L_139 N) ⟨[(0,⟨[.tmp 10 tI,.row 0 .bool,.row 1 .bool],rG 29 14,[],[],[]⟩)],[],[],[]⟩ N ((q8 (Z_41 N) K_41 (q8 (Z_42 N) K_42 q11))) (q30) ((q22 (Z_139 N M) K_139 q49)) Tryz.func65
def S_140(N:Nat):FnSpec:=⟨.pair (.slice .bool) .nil,(.pair (.slice tI) .nil),[true],F_140 N,false⟩
theorem Z_140(N:Nat):SN 66 (S_140 N):=snd ⟨[],[],[],[],[]⟩ ⟨[(0,⟨[.tmp 4 tI,.row 0 tI],rG 5 15,[],[],[]⟩)],[],[],[]⟩ N q11 Tryz.func66
def S_141(N:Nat):FnSpec:=⟨.pair TBlock tN,(.pair (.slice tI) .nil),[true],F_141 N,false⟩
noncomputable def L_141(N:Nat):MarkL:=[]
theorem Z_141(N:Nat):SN 73 (S_141 N):=sndX ⟨[((66,[]),S_140 N)],[],[],[],[(65,.io (S_139 N N))]⟩ (L_141 N) ⟨[],[],[],[]⟩ N ((q8 (Z_140 N) (cb Tryz.func66) q11)) (q30) ((q22 (Z_139 N N) K_139 q49)) Tryz.func73
def S_142(N:Nat):FnSpec:=⟨.pair (.slice tI) tN,tN,[false],F_142 N,false⟩
theorem K_142:CB 74:=cb Tryz.func74
theorem Z_142(N:Nat):SN 74 (S_142 N):=snd ⟨[],[],[],[],[]⟩ ⟨[(0,⟨[.tmp 5 tI],rG 6 12,[],[],[]⟩)],[],[],[]⟩ N q11 Tryz.func74
def S_143(N:Nat):FnSpec:=⟨tN,tN,[false],F_143 N,false⟩
theorem K_143:CB 123:=cb Tryz.func123
theorem Z_143(N:Nat):SN 123 (S_143 N):=snd ⟨[],[],[],[],[]⟩ ⟨[(0,⟨[.tmp 3 tI,.tmp 4 tI],rG 5 7,[],[],[]⟩)],[],[],[]⟩ N q11 Tryz.func123
def S_144(N:Nat):FnSpec:=⟨.pair tI tN,(.pair (.slice tI) .nil),[true],F_144 N,false⟩
theorem Z_144(N:Nat):SN 124 (S_144 N):=snd ⟨[],[],[],[],[]⟩ ⟨[(0,⟨[.tmp 0 tI,.tmp 6 tI,.row 0 tI],rG 7 13,[],[],[]⟩)],[],[],[]⟩ N q11 Tryz.func124
def S_145(N:Nat):FnSpec:=⟨.pair TBlock (.pair (.slice tI) (.pair (.slice tI) .nil)),(.pair (.slice tI) .nil),[true],F_145 N,false⟩
theorem Z_145(N:Nat):SN 53 (S_145 N):=snd ⟨[],[],[],[],[]⟩ ⟨[(0,⟨[.tmp 8 tI,.row 1 tI],rG 15 9,[],[],[]⟩),(2,⟨[.tmp 9 tI,.row 1 tI],rG 24 16,[],[],[]⟩)],[],[],[]⟩ N q11 Tryz.func53
def S_146(N M:Nat):IoSpec:=⟨(.pair TBlock (.pair tI (.pair (.slice tI) .nil))),[false,false,true],tN,(.pair (.slice tI) .nil),F_146 N M⟩
noncomputable def C_146(N M:Nat):Ctx:=⟨[((116,[]),S_41 N),((117,[]),S_42 N)],[],[],[],[(54,.io (S_146 N M))]⟩
theorem K_146:CB 54:=cb Tryz.func54
noncomputable def L_146(N:Nat):MarkL:=[]
theorem Z_146(N:Nat):∀ M,IoOk Tryz.prog 54 (S_146 N M)
 | 0=>fun w args x r ys ok R _ _ _ _ h=>nomatch (show none=some (r,ys) from h)
 | M+1=>sndIO (C_146 N M) (L_146 N) ⟨[(0,⟨[.tmp 9 tI,.tmp 10 tI,.tmp 11 tI,.row 0 tI],rG 27 19,[],[],[]⟩)],[],[],[]⟩ N ((q8 (Z_41 N) K_41 (q8 (Z_42 N) K_42 q11))) (q30) ((q22 (Z_146 N M) K_146 q49)) Tryz.func54
def S_147(N:Nat):FnSpec:=⟨.pair TBlock (.pair tI (.pair (.slice tI) .nil)),(.pair (.slice tI) .nil),[true],F_147 N,false⟩
noncomputable def L_147(N:Nat):MarkL:=[]
theorem Z_147(N:Nat):SN 67 (S_147 N):=sndX ⟨[((53,[]),S_145 N),((123,[]),S_143 N),((124,[]),S_144 N)],[],[],[],[(54,.io (S_146 N N))]⟩ (L_147 N) ⟨[(0,⟨[.tmp 8 tI,.row 1 tI],rG 9 21,[],[],[]⟩)],[],[],[]⟩ N ((q8 (Z_145 N) (cb Tryz.func53) (q8 (Z_143 N) K_143 (q8 (Z_144 N) (cb Tryz.func124) q11)))) (q30) ((q22 (Z_146 N N) K_146 q49)) Tryz.func67
def S_148(N:Nat):FnSpec:=⟨tN,tN,[false],F_148 N,false⟩
theorem Z_148(N:Nat):SN 75 (S_148 N):=snd ⟨[((123,[]),S_143 N)],[],[],[],[]⟩ ⟨[],[],[],[]⟩ N ((q8 (Z_143 N) K_143 q11)) Tryz.func75
def S_149(N:Nat):FnSpec:=⟨.pair (.slice tI) tN,(.pair (.slice tI) .nil),[true],F_149 N,false⟩
theorem Z_149(N:Nat):SN 93 (S_149 N):=snd ⟨[],[],[],[],[]⟩ ⟨[(0,⟨[.tmp 6 tI,.row 0 tI],rG 7 34,[],[],[]⟩)],[],[],[]⟩ N q11 Tryz.func93
def S_150(N:Nat):FnSpec:=⟨.pair TBlock (.pair (.slice TActivity) tN),(.pair TActivity .nil),[false,false,false],F_150 N,false⟩
theorem K_150:CB 145:=cb Tryz.func145
theorem Z_150(N:Nat):SN 145 (S_150 N):=snd ⟨[((51,[]),S_46 N),((74,[]),S_142 N)],[],[],[],[]⟩ ⟨[],[],[],[]⟩ N ((q8 (Z_46 N) K_46 (q8 (Z_142 N) K_142 q11))) Tryz.func145
def S_151(N:Nat):FnSpec:=⟨.pair TBlock (.pair (.slice TActivity) (.pair (.slice tI) tN)),tN,[false],F_151 N,false⟩
theorem Z_151(N:Nat):SN 144 (S_151 N):=snd ⟨[((145,[]),S_150 N)],[],[],[],[]⟩ ⟨[(0,⟨[.tmp 3 tI,.tmp 9 tI,.tmp 10 tI],rG 11 22++[40,41]++rG 33 7,[],[],[]⟩)],[],[],[]⟩ N ((q8 (Z_150 N) K_150 q11)) Tryz.func144
def S_152(N:Nat):FnSpec:=⟨.pair TBlock (.pair (.slice TActivity) (.pair (.slice tI) (.pair (.slice tI) .nil))),tN,[false],F_152 N,false⟩
theorem Z_152(N:Nat):SN 95 (S_152 N):=snd ⟨[((144,[]),S_151 N)],[],[],[],[]⟩ ⟨[(0,⟨[.tmp 9 tI,.tmp 10 tI],rG 11 18,[],[],[]⟩)],[],[],[]⟩ N ((q8 (Z_151 N) (cb Tryz.func144) q11)) Tryz.func95
def S_153(N:Nat):FnSpec:=⟨.pair TBlock (.pair (.slice TActivity) (.pair (.slice tI) .nil)),tN,[false],F_153 N,false⟩
theorem Z_153(N:Nat):SN 96 (S_153 N):=snd ⟨[((145,[]),S_150 N)],[],[],[],[]⟩ ⟨[(0,⟨[.tmp 7 tI,.tmp 8 tI],rG 9 17,[],[],[]⟩)],[],[],[]⟩ N ((q8 (Z_150 N) K_150 q11)) Tryz.func96
def S_154(N:Nat):FnSpec:=⟨.pair TBlock (.pair (.slice TActivity) (.pair tI tN)),(.pair TFraction tN),[false,false,false],F_154 N,false⟩
theorem Z_154(N:Nat):SN 34 (S_154 N):=snd ⟨[((64,[]),S_136 N),((67,[]),S_147 N),((73,[]),S_141 N),((74,[]),S_142 N),((75,[]),S_148 N),((92,[]),S_138 N),((93,[]),S_149 N),((94,[]),S_51 N),((95,[]),S_152 N),((96,[]),S_153 N)],[],[],[],[]⟩ ⟨[],[],[],[]⟩ N ((q8 (Z_136 N) (cb Tryz.func64) (q8 (Z_147 N) (cb Tryz.func67) (q8 (Z_141 N) (cb Tryz.func73) (q8 (Z_142 N) K_142 (q8 (Z_148 N) (cb Tryz.func75) (q8 (Z_138 N) (cb Tryz.func92) (q8 (Z_149 N) (cb Tryz.func93) (q8 (Z_51 N) K_51 (q8 (Z_152 N) (cb Tryz.func95) (q8 (Z_153 N) (cb Tryz.func96) q11))))))))))) Tryz.func34
def S_155(N:Nat):FnSpec:=⟨.pair tI (.pair tI tN),tN,[false],F_155 N,false⟩
theorem Z_155(N:Nat):SN 146 (S_155 N):=snd ⟨[],[],[],[],[]⟩ ⟨[],[],[],[]⟩ N q11 Tryz.func146
def S_156(N:Nat):FnSpec:=⟨.pair (.ptr Tchances) tN,(.pair tI (.pair .bool .nil)),[false,false],F_156 N,false⟩
theorem Z_156(N:Nat):SN 97 (S_156 N):=snd ⟨[((56,[]),S_127 N),((71,[]),S_133 N),((76,[]),S_132 N),((146,[]),S_155 N)],[],[],[],[]⟩ ⟨[(0,⟨[.tmp 9 tI,.tmp 27 tI],[10,11,12]++rG 28 25,[],[],[]⟩)],[],[],[]⟩ N ((q8 (Z_127 N) K_127 (q8 (Z_133 N) K_133 (q8 (Z_132 N) K_132 (q8 (Z_155 N) (cb Tryz.func146) q11))))) Tryz.func97
def S_157(N:Nat):FnSpec:=⟨.pair TBlock (.pair (.slice TActivity) tN),(.pair tI tN),[false,false],F_157 N,false⟩
theorem Z_157(N:Nat):SN 35 (S_157 N):=snd ⟨[((68,[]),S_124 N),((97,[]),S_156 N)],[16],[],[],[]⟩ ⟨[],[],[],[]⟩ N ((q8 (Z_124 N) K_124 (q8 (Z_156 N) (cb Tryz.func97) q11))) Tryz.func35
def S_158(N:Nat):FnSpec:=⟨.pair (.ptr Tchances) (.pair (.slice tI) .nil),tN,[false],F_158 N,false⟩
theorem Z_158(N:Nat):SN 98 (S_158 N):=snd ⟨[],[],[],[],[]⟩ ⟨[(0,⟨[.tmp 5 tI,.tmp 10 tI],[7]++rG 11 13,[],[],[]⟩)],[],[],[]⟩ N q11 Tryz.func98
def S_159(N:Nat):FnSpec:=⟨.pair TBlock (.pair (.slice TActivity) tN),(.pair tI tN),[false,false],F_159 N,false⟩
theorem Z_159(N:Nat):SN 36 (S_159 N):=snd ⟨[((55,[]),S_125 N),((68,[]),S_124 N),((98,[]),S_158 N)],[14],[],[],[]⟩ ⟨[],[],[],[]⟩ N ((q8 (Z_125 N) K_125 (q8 (Z_124 N) K_124 (q8 (Z_158 N) (cb Tryz.func98) q11)))) Tryz.func36
def S_160(N:Nat):FnSpec:=⟨.pair (.slice (.int .u8)) .nil,(.pair .bool .nil),[false],F_160 N,false⟩
theorem Z_160(N:Nat):SN 7 (S_160 N):=snd ⟨[((9,[]),S_0 N),((17,[]),S_47 N),((25,[]),S_135 N),((33,[]),S_53 N),((34,[]),S_154 N),((35,[]),S_157 N),((36,[]),S_159 N),((37,[]),S_137 N)],[],[],[],[]⟩ ⟨[(0,⟨[.tmp 17 tI],rG 117 27,[],[],[]⟩)],[],[],[]⟩ N ((q8 (Z_0 N) (cb Tryz.func9) (q8 (Z_47 N) K_47 (q8 (Z_135 N) (cb Tryz.func25) (q8 (Z_53 N) (cb Tryz.func33) (q8 (Z_154 N) (cb Tryz.func34) (q8 (Z_157 N) (cb Tryz.func35) (q8 (Z_159 N) (cb Tryz.func36) (q8 (Z_137 N) K_137 q11))))))))) Tryz.func7
end Go.Proofs.YtgldiandbkfmkaaGreatDoor
