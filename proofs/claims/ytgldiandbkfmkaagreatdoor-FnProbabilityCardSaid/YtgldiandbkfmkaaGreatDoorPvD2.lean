/- The functions' contracts. Printed by my dec.py. No condition of its own. -/
import Derived.Test.YtgldiandbkfmkaaGreatDoorPvD1
namespace Go.Proofs.YtgldiandbkfmkaaGreatDoor
open Go.RowKit
set_option maxRecDepth 100000
set_option linter.unusedVariables false
def S_126(N:Nat):FnSpec:=⟨.pair (.ptr Tlogic) tN,(.pair (.slice tI) (.pair (.slice tI) (.pair .bool .nil))),[true,false,false],F_126 N,false⟩
theorem KI_62:CB 62:=cb Tryz.func62
noncomputable def I_127:InF:=⟨62,Tryz.f62,⟨[(0,⟨[.tmp 13 tI,.var 2 [none],.row 4 tI],[6,7,8,9]++rG 14 24,[],[(2,0,tI)],[]⟩),
 (2,⟨[.tmp 19 tI,.map 5 tI],[],[],[],[]⟩)],[],[],[]⟩,[],false⟩
theorem KI_118:CB 118:=cb Tryz.func118
noncomputable def I_128:InF:=⟨118,Tryz.f118,⟨[],[],[],[]⟩,[],false⟩
theorem Z_126(N:Nat):SN 56 (S_126 N):=snd ⟨[((49,[]),S_125 N),((55,[]),S_124 N)],[],[I_127,I_128],[],[]⟩ ⟨[],[],[(4,tI)],[]⟩ N ((q8 (Z_125 N) (cb Tryz.func49) (q8 (Z_124 N) K_124 q11))) Tryz.func56 (hi:=(q94 Tryz.func62 KI_62 (q94 Tryz.func118 KI_118 q443)))
def S_129(N:Nat):FnSpec:=⟨.pair (.ptr Tchances) (.pair (.slice tI) (.pair tI tN)),tN,[false],F_129 N,false⟩
theorem Z_129(N:Nat):SN 69 (S_129 N):=snd ⟨[],[],[],[],[]⟩ ⟨[(0,⟨[.tmp 15 tI,.tmp 9 tI],[10,11,12]++rG 16 11++[34,35,36,37,48]++rG 38 10++rG 27 7,[],[],[]⟩)],[],[],[]⟩ N q11 Tryz.func69
def S_130(N:Nat):FnSpec:=⟨.pair (.ptr Tchances) (.pair (.slice tI) tN),tN,[false],F_130 N,false⟩
theorem Z_130(N:Nat):SN 71 (S_130 N):=snd ⟨[],[],[],[],[]⟩ ⟨[(0,⟨[.tmp 7 tI,.tmp 12 tI],[8,9]++rG 13 18,[],[],[]⟩)],[],[],[]⟩ N q11 Tryz.func71
def S_131(N:Nat):FnSpec:=⟨.pair tI tN,(.pair TFraction .nil),[false,false],F_131 N,false⟩
theorem K_131:CB 70:=cb Tryz.func70
theorem Z_131(N:Nat):SN 70 (S_131 N):=snd ⟨[((126,[]),S_117 N)],[],[],[],[]⟩ ⟨[],[],[],[]⟩ N ((q8 (Z_117 N) K_117 q11)) Tryz.func70
def S_132(N:Nat):FnSpec:=⟨.pair TBlock (.pair (.slice TActivity) tN),(.pair TFraction tN),[false,false,false],F_132 N,false⟩
theorem Z_132(N:Nat):SN 21 (S_132 N):=snd ⟨[((56,[]),S_126 N),((68,[]),S_123 N),((69,[]),S_129 N),((70,[]),S_131 N),((71,[]),S_130 N)],[21],[],[],[]⟩ ⟨[(0,⟨[.tmp 13 tI,.tmp 44 tI],[14,15]++rG 45 13,[],[],[]⟩)],[],[],[]⟩ N ((q8 (Z_126 N) (cb Tryz.func56) (q8 (Z_123 N) K_123 (q8 (Z_129 N) (cb Tryz.func69) (q8 (Z_131 N) K_131 (q8 (Z_130 N) (cb Tryz.func71) q11)))))) Tryz.func21
def S_133(N:Nat):FnSpec:=⟨.pair TBlock tN,tN,[false],F_133 N,false⟩
theorem Z_133(N:Nat):SN 64 (S_133 N):=snd ⟨[((50,[]),S_45 N),((52,[]),S_24 N)],[],[],[],[]⟩ ⟨[],[],[],[]⟩ N ((q8 (Z_45 N) K_45 (q8 (Z_24 N) K_24 q11))) Tryz.func64
def S_134(N:Nat):FnSpec:=⟨.pair TFraction .nil,(.pair .bool .nil),[false],F_134 N,false⟩
theorem K_134:CB 37:=cb Tryz.func37
theorem Z_134(N:Nat):SN 37 (S_134 N):=snd ⟨[((52,[]),S_24 N),((99,[]),S_48 N)],[],[],[],[]⟩ ⟨[],[],[],[]⟩ N ((q8 (Z_24 N) K_24 (q8 (Z_48 N) K_48 q11))) Tryz.func37
def S_135(N:Nat):FnSpec:=⟨.pair TBlock (.pair (.slice TActivity) .nil),(.pair .bool .nil),[false],F_135 N,false⟩
theorem Z_135(N:Nat):SN 92 (S_135 N):=snd ⟨[((37,[]),S_134 N),((50,[]),S_45 N),((51,[]),S_46 N),((52,[]),S_24 N)],[],[],[],[]⟩ ⟨[(0,⟨[.tmp 5 tI],rG 17 31,[],[],[]⟩)],[],[],[]⟩ N ((q8 (Z_134 N) K_134 (q8 (Z_45 N) K_45 (q8 (Z_46 N) K_46 (q8 (Z_24 N) K_24 q11))))) Tryz.func92
def S_136(N:Nat):FnSpec:=⟨.pair TBlock (.pair (.slice TActivity) tN),tN,[false],F_136 N,false⟩
theorem Z_136(N:Nat):SN 101 (S_136 N):=snd ⟨[((64,[]),S_133 N),((92,[]),S_135 N)],[],[],[],[]⟩ ⟨[],[],[],[]⟩ N ((q8 (Z_133 N) (cb Tryz.func64) (q8 (Z_135 N) (cb Tryz.func92) q11))) Tryz.func101
def S_137(N M:Nat):IoSpec:=⟨(.pair TBlock (.pair tI (.pair (.slice .bool) (.pair (.slice .bool) .nil)))),[false,false,true,true],.nil,(.pair (.slice .bool) (.pair (.slice .bool) .nil)),F_137 N M⟩
noncomputable def C_137(N M:Nat):Ctx:=⟨[((116,[]),S_41 N),((117,[]),S_42 N)],[],[],[],[(65,.io (S_137 N M))]⟩
theorem K_137:CB 65:=cb Tryz.func65
noncomputable def L_137(N:Nat):MarkL:=[]
theorem Z_137(N:Nat):∀ M,IoOk Tryz.prog 65 (S_137 N M)
 | 0=>fun w args x r ys ok R _ _ _ _ h=>nomatch (show none=some (r,ys) from h)
 | M+1=>sndIO (C_137 N M) (L_137 N) ⟨[(0,⟨[.tmp 10 tI,.row 0 .bool,.row 1 .bool],rG 29 14,[],[],[]⟩)],[],[],[]⟩ N ((q8 (Z_41 N) K_41 (q8 (Z_42 N) K_42 q11))) (q32) ((q23 (Z_137 N M) K_137 q54)) Tryz.func65
def S_138(N:Nat):FnSpec:=⟨.pair (.slice .bool) .nil,(.pair (.slice tI) .nil),[true],F_138 N,false⟩
theorem Z_138(N:Nat):SN 66 (S_138 N):=snd ⟨[],[],[],[],[]⟩ ⟨[(0,⟨[.tmp 4 tI,.row 0 tI],rG 5 15,[],[],[]⟩)],[],[],[]⟩ N q11 Tryz.func66
def S_139(N:Nat):FnSpec:=⟨.pair TBlock tN,(.pair (.slice tI) .nil),[true],F_139 N,false⟩
noncomputable def L_139(N:Nat):MarkL:=[]
theorem Z_139(N:Nat):SN 73 (S_139 N):=sndX ⟨[((66,[]),S_138 N)],[],[],[],[(65,.io (S_137 N N))]⟩ (L_139 N) ⟨[],[],[],[]⟩ N ((q8 (Z_138 N) (cb Tryz.func66) q11)) (q32) ((q23 (Z_137 N N) K_137 q54)) Tryz.func73
def S_140(N:Nat):FnSpec:=⟨tN,tN,[false],F_140 N,false⟩
theorem Z_140(N:Nat):SN 123 (S_140 N):=snd ⟨[],[],[],[],[]⟩ ⟨[(0,⟨[.tmp 3 tI,.tmp 4 tI],rG 5 7,[],[],[]⟩)],[],[],[]⟩ N q11 Tryz.func123
def S_141(N:Nat):FnSpec:=⟨.pair tI tN,(.pair (.slice tI) .nil),[true],F_141 N,false⟩
theorem Z_141(N:Nat):SN 124 (S_141 N):=snd ⟨[],[],[],[],[]⟩ ⟨[(0,⟨[.tmp 0 tI,.tmp 6 tI,.row 0 tI],rG 7 13,[],[],[]⟩)],[],[],[]⟩ N q11 Tryz.func124
def S_142(N:Nat):FnSpec:=⟨.pair TBlock (.pair (.slice tI) (.pair (.slice tI) .nil)),(.pair (.slice tI) .nil),[true],F_142 N,false⟩
theorem Z_142(N:Nat):SN 53 (S_142 N):=snd ⟨[],[],[],[],[]⟩ ⟨[(0,⟨[.tmp 8 tI,.row 1 tI],rG 15 9,[],[],[]⟩),(2,⟨[.tmp 9 tI,.row 1 tI],rG 24 16,[],[],[]⟩)],[],[],[]⟩ N q11 Tryz.func53
def S_143(N M:Nat):IoSpec:=⟨(.pair TBlock (.pair tI (.pair (.slice tI) .nil))),[false,false,true],tN,(.pair (.slice tI) .nil),F_143 N M⟩
noncomputable def C_143(N M:Nat):Ctx:=⟨[((116,[]),S_41 N),((117,[]),S_42 N)],[],[],[],[(54,.io (S_143 N M))]⟩
theorem K_143:CB 54:=cb Tryz.func54
noncomputable def L_143(N:Nat):MarkL:=[]
theorem Z_143(N:Nat):∀ M,IoOk Tryz.prog 54 (S_143 N M)
 | 0=>fun w args x r ys ok R _ _ _ _ h=>nomatch (show none=some (r,ys) from h)
 | M+1=>sndIO (C_143 N M) (L_143 N) ⟨[(0,⟨[.tmp 9 tI,.tmp 10 tI,.tmp 11 tI,.row 0 tI],rG 27 19,[],[],[]⟩)],[],[],[]⟩ N ((q8 (Z_41 N) K_41 (q8 (Z_42 N) K_42 q11))) (q32) ((q23 (Z_143 N M) K_143 q54)) Tryz.func54
def S_144(N:Nat):FnSpec:=⟨.pair TBlock (.pair tI (.pair (.slice tI) .nil)),(.pair (.slice tI) .nil),[true],F_144 N,false⟩
noncomputable def L_144(N:Nat):MarkL:=[]
theorem Z_144(N:Nat):SN 67 (S_144 N):=sndX ⟨[((53,[]),S_142 N),((123,[]),S_140 N),((124,[]),S_141 N)],[],[],[],[(54,.io (S_143 N N))]⟩ (L_144 N) ⟨[(0,⟨[.tmp 8 tI,.row 1 tI],rG 9 21,[],[],[]⟩)],[],[],[]⟩ N ((q8 (Z_142 N) (cb Tryz.func53) (q8 (Z_140 N) (cb Tryz.func123) (q8 (Z_141 N) (cb Tryz.func124) q11)))) (q32) ((q23 (Z_143 N N) K_143 q54)) Tryz.func67
def S_145(N:Nat):FnSpec:=⟨.pair (.slice tI) tN,tN,[false],F_145 N,false⟩
theorem Z_145(N:Nat):SN 74 (S_145 N):=snd ⟨[],[],[],[],[]⟩ ⟨[(0,⟨[.tmp 5 tI],rG 6 12,[],[],[]⟩)],[],[],[]⟩ N q11 Tryz.func74
def S_146(N:Nat):FnSpec:=⟨.pair TBlock (.pair (.slice TActivity) tN),(.pair TActivity .nil),[false,false,false],F_146 N,false⟩
theorem K_146:CB 145:=cb Tryz.func145
theorem Z_146(N:Nat):SN 145 (S_146 N):=snd ⟨[((51,[]),S_46 N),((74,[]),S_145 N)],[],[],[],[]⟩ ⟨[],[],[],[]⟩ N ((q8 (Z_46 N) K_46 (q8 (Z_145 N) (cb Tryz.func74) q11))) Tryz.func145
def S_147(N:Nat):FnSpec:=⟨.pair TBlock (.pair (.slice TActivity) (.pair (.slice tI) tN)),tN,[false],F_147 N,false⟩
theorem Z_147(N:Nat):SN 144 (S_147 N):=snd ⟨[((145,[]),S_146 N)],[],[],[],[]⟩ ⟨[(0,⟨[.tmp 3 tI,.tmp 9 tI,.tmp 10 tI],rG 11 22++[40,41]++rG 33 7,[],[],[]⟩)],[],[],[]⟩ N ((q8 (Z_146 N) K_146 q11)) Tryz.func144
def S_148(N:Nat):FnSpec:=⟨.pair TBlock (.pair (.slice TActivity) (.pair (.slice tI) (.pair (.slice tI) .nil))),tN,[false],F_148 N,false⟩
theorem Z_148(N:Nat):SN 95 (S_148 N):=snd ⟨[((144,[]),S_147 N)],[],[],[],[]⟩ ⟨[(0,⟨[.tmp 9 tI,.tmp 10 tI],rG 11 18,[],[],[]⟩)],[],[],[]⟩ N ((q8 (Z_147 N) (cb Tryz.func144) q11)) Tryz.func95
def S_149(N:Nat):FnSpec:=⟨.pair TBlock (.pair (.slice TActivity) (.pair (.slice tI) .nil)),tN,[false],F_149 N,false⟩
theorem Z_149(N:Nat):SN 96 (S_149 N):=snd ⟨[((145,[]),S_146 N)],[],[],[],[]⟩ ⟨[(0,⟨[.tmp 7 tI,.tmp 8 tI],rG 9 17,[],[],[]⟩)],[],[],[]⟩ N ((q8 (Z_146 N) K_146 q11)) Tryz.func96
def S_150(N:Nat):FnSpec:=⟨.pair TBlock (.pair (.slice TActivity) tN),(.pair TFraction tN),[false,false,false],F_150 N,false⟩
theorem Z_150(N:Nat):SN 39 (S_150 N):=snd ⟨[((67,[]),S_144 N),((73,[]),S_139 N),((94,[]),S_49 N),((95,[]),S_148 N),((96,[]),S_149 N),((101,[]),S_136 N)],[],[],[],[]⟩ ⟨[],[],[],[]⟩ N ((q8 (Z_144 N) (cb Tryz.func67) (q8 (Z_139 N) (cb Tryz.func73) (q8 (Z_49 N) K_49 (q8 (Z_148 N) (cb Tryz.func95) (q8 (Z_149 N) (cb Tryz.func96) (q8 (Z_136 N) (cb Tryz.func101) q11))))))) Tryz.func39
def S_151(N:Nat):FnSpec:=⟨.pair tI (.pair tI tN),tN,[false],F_151 N,false⟩
theorem Z_151(N:Nat):SN 146 (S_151 N):=snd ⟨[],[],[],[],[]⟩ ⟨[],[],[],[]⟩ N q11 Tryz.func146
def S_152(N:Nat):FnSpec:=⟨.pair (.slice TFraction) tN,(.pair TFraction .nil),[false,false],F_152 N,false⟩
theorem Z_152(N:Nat):SN 148 (S_152 N):=snd ⟨[],[],[],[],[]⟩ ⟨[(0,⟨[.tmp 5 tI,.tmp 6 tI,.tmp 11 tI],[7,8]++rG 12 26,[],[],[]⟩)],[],[],[]⟩ N q11 Tryz.func148
def S_153(N:Nat):FnSpec:=⟨.pair TFraction (.pair TFraction .nil),(.pair TFraction .nil),[false,false],F_153 N,false⟩
theorem Z_153(N:Nat):SN 147 (S_153 N):=snd ⟨[],[],[],[],[]⟩ ⟨[],[],[],[]⟩ N q11 Tryz.func147
def S_154(N:Nat):FnSpec:=⟨.pair (.ptr Tchances) (.pair tI (.pair (.slice TFraction) .nil)),(.pair TFraction .nil),[false,false],F_154 N,false⟩
theorem Z_154(N:Nat):SN 102 (S_154 N):=snd ⟨[((113,[]),S_109 N),((114,[]),S_108 N),((146,[]),S_151 N),((147,[]),S_153 N),((148,[]),S_152 N)],[],[],[],[]⟩ ⟨[(0,⟨[.tmp 52 tI,.row 1 TFraction],[10]++rG 53 11,[(8,TFraction)],[],[]⟩),(2,⟨[.tmp 84 tI,.var 2 [some tI,some tI,some tI,some tI]],[12,13]++rG 85 14,[],[],[]⟩)],[],[],[]⟩ N ((q8 (Z_109 N) K_109 (q8 (Z_108 N) K_108 (q8 (Z_151 N) (cb Tryz.func146) (q8 (Z_153 N) (cb Tryz.func147) (q8 (Z_152 N) (cb Tryz.func148) q11)))))) Tryz.func102
def S_155(N:Nat):FnSpec:=⟨.pair TBlock (.pair (.slice TActivity) tN),(.pair TFraction tN),[false,false,false],F_155 N,false⟩
theorem Z_155(N:Nat):SN 40 (S_155 N):=snd ⟨[((68,[]),S_123 N),((102,[]),S_154 N)],[17],[],[],[]⟩ ⟨[(0,⟨[.tmp 42 tI,.row 2 TFraction],[12]++rG 43 11,[],[],[]⟩)],[],[],[]⟩ N ((q8 (Z_123 N) K_123 (q8 (Z_154 N) (cb Tryz.func102) q11))) Tryz.func40
def S_156(N:Nat):FnSpec:=⟨.pair (.slice tI) tN,tN,[false],F_156 N,false⟩
theorem Z_156(N:Nat):SN 72 (S_156 N):=snd ⟨[],[],[],[],[]⟩ ⟨[(0,⟨[.tmp 8 tI],[5]++rG 9 8++[18],[],[],[]⟩)],[],[],[]⟩ N q11 Tryz.func72
def S_157(N:Nat):FnSpec:=⟨.pair (.slice tI) tN,(.pair .bool .nil),[false],F_157 N,false⟩
theorem Z_157(N:Nat):SN 150 (S_157 N):=snd ⟨[((72,[]),S_156 N)],[],[],[],[]⟩ ⟨[],[],[],[]⟩ N ((q8 (Z_156 N) (cb Tryz.func72) q11)) Tryz.func150
def S_158(N M:Nat):FnSpec:=⟨.pair (.ptr Tlogic) (.pair tI (.pair (.slice (.slice tI)) .nil)),(.pair .bool .nil),[false],F_158 N M,false⟩
noncomputable def I_159:InF:=⟨110,Tryz.f110,⟨[],[],[],[]⟩,[],false⟩
theorem KI_149:CB 149:=cb Tryz.func149
noncomputable def I_160:InF:=⟨149,Tryz.f149,⟨[],[],[],[]⟩,[],false⟩
noncomputable def I_161:InF:=⟨159,Tryz.f159,⟨[(0,⟨[.tmp 8 tI],[5]++rG 9 8++[18],[],[],[]⟩)],[],[],[]⟩,[],false⟩
noncomputable def C_158(N M:Nat):Ctx:=⟨[((113,[]),S_109 N),((150,[]),S_157 N),((103,[]),S_158 N M)],[],[I_159,I_160,I_161],[],[]⟩
theorem K_158:CB 103:=cb Tryz.func103
theorem Z_158(N:Nat):∀ M,SN 103 (S_158 N M)
 | 0=>fun w args x r ok _ _ _ h=>nomatch (show none=some r from h)
 | M+1=>snd (C_158 N M) ⟨[(0,⟨[.tmp 22 tI,.var 0 [none],.row 1 tI],[9]++rG 23 23,[],[(0,0,tI),(0,0,tI)],[]⟩)],[],[],[]⟩ N (q8 (Z_109 N) K_109 (q8 (Z_157 N) (cb Tryz.func150) (q8 (Z_158 N M) K_158 q11))) Tryz.func103 (hi:=(q94 Tryz.func110 KI_110 (q94 Tryz.func149 KI_149 (q94 Tryz.func159 KI_159 q443))))
def S_162(N:Nat):FnSpec:=⟨.pair TBlock tN,(.pair .bool tN),[false,false],F_162 N,false⟩
theorem Z_162(N:Nat):SN 41 (S_162 N):=snd ⟨[((46,[]),S_115 N),((55,[]),S_124 N),((103,[]),S_158 N N)],[11],[],[],[]⟩ ⟨[],[],[],[]⟩ N ((q8 (Z_115 N) K_115 (q8 (Z_124 N) K_124 (q8 (Z_158 N N) K_158 q11)))) Tryz.func41
def S_163(N M:Nat):FnSpec:=⟨.pair (.ptr Tchances) tN,(.pair TFraction (.pair .bool .nil)),[false,false,false],F_163 N M,false⟩
noncomputable def C_163(N M:Nat):Ctx:=⟨[((70,[]),S_131 N),((113,[]),S_109 N),((114,[]),S_108 N),((104,[]),S_163 N M)],[],[],[],[]⟩
theorem K_163:CB 104:=cb Tryz.func104
theorem Z_163(N:Nat):∀ M,SN 104 (S_163 N M)
 | 0=>fun w args x r ok _ _ _ h=>nomatch (show none=some r from h)
 | M+1=>snd (C_163 N M) ⟨[(0,⟨[.tmp 6 tI,.tmp 42 tI,.row 1 TFraction],[9,10,11]++rG 43 18++rG 62 9,[(7,TFraction)],[],[]⟩),(2,⟨[.tmp 12 tI,.tmp 91 tI],[13,14,15,16]++rG 92 32,[],[],[]⟩),(4,⟨[.tmp 14 tI,.tmp 98 tI],[],[],[],[]⟩)],[],[],[]⟩ N (q8 (Z_131 N) K_131 (q8 (Z_109 N) K_109 (q8 (Z_108 N) K_108 (q8 (Z_163 N M) K_163 q11)))) Tryz.func104
def S_164(N:Nat):FnSpec:=⟨.pair TBlock (.pair (.slice TActivity) tN),(.pair TFraction tN),[false,false,false],F_164 N,false⟩
theorem Z_164(N:Nat):SN 42 (S_164 N):=snd ⟨[((55,[]),S_124 N),((68,[]),S_123 N),((103,[]),S_158 N N),((104,[]),S_163 N N)],[16],[],[],[]⟩ ⟨[],[],[],[]⟩ N ((q8 (Z_124 N) K_124 (q8 (Z_123 N) K_123 (q8 (Z_158 N N) K_158 (q8 (Z_163 N N) K_163 q11))))) Tryz.func42
def S_165(N:Nat):FnSpec:=⟨.pair (.slice (.int .u8)) .nil,(.pair .bool .nil),[false],F_165 N,false⟩
theorem Z_165(N:Nat):SN 8 (S_165 N):=snd ⟨[((9,[]),S_0 N),((21,[]),S_132 N),((37,[]),S_134 N),((38,[]),S_53 N),((39,[]),S_150 N),((40,[]),S_155 N),((41,[]),S_162 N),((42,[]),S_164 N)],[],[],[],[]⟩ ⟨[],[],[],[]⟩ N ((q8 (Z_0 N) (cb Tryz.func9) (q8 (Z_132 N) (cb Tryz.func21) (q8 (Z_134 N) K_134 (q8 (Z_53 N) (cb Tryz.func38) (q8 (Z_150 N) (cb Tryz.func39) (q8 (Z_155 N) (cb Tryz.func40) (q8 (Z_162 N) (cb Tryz.func41) (q8 (Z_164 N) (cb Tryz.func42) q11))))))))) Tryz.func8
end Go.Proofs.YtgldiandbkfmkaaGreatDoor
