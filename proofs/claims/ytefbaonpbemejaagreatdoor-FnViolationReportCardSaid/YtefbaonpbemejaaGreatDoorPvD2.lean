/- The functions' contracts. Printed by my dec.py. No condition of its own. -/
import Derived.Test.YtefbaonpbemejaaGreatDoorPvD1
namespace Go.Proofs.YtefbaonpbemejaaGreatDoor
open Go.RowKit
set_option maxRecDepth 100000
set_option linter.unusedVariables false
noncomputable section
variable (N:Nat)
def c98:CtP:=ct ⟨(.pair TBlock tN),(.pair (.slice tI) .nil),[true],F_123 N,false⟩ [] ⟨[(0,⟨[.tmp 27 tI,.row 2 tI],[8,9]++rG 28 24,[],[],[]⟩),(2,⟨[.tmp 10 tI,.row 2 tI],rG 55 18,[],[],[]⟩)],[],[],[]⟩ [c89 N,c95 N,c96 N,c97 N] N Tryz.func85
def c99:CtP:=ct ⟨(.pair TBlock tN),(.pair (.slice tI) .nil),[true],F_124 N,false⟩ [] ⟨[(0,⟨[.tmp 8 tI,.row 3 tI],rG 20 28,[],[],[]⟩)],[],[],[]⟩ [c98 N] N Tryz.func147
def c100:CtP:=ct ⟨(.pair TBlock tN),(.pair (.slice tI) .nil),[true],F_125 N,false⟩ [] ⟨[(0,⟨[.tmp 19 tI,.row 2 tI],[8]++rG 20 11,[(6,tI)],[],[]⟩)],[],[],[]⟩ [c99 N] N Tryz.func86
def S_20(N:Nat):FnSpec:=⟨.pair TBlock .nil,(.pair (.ptr Tview) .nil),[false],F_20 N,false⟩
theorem Z_20(N:Nat):SN 35 (S_20 N):=snd ⟨esP [c89 N,c94 N,c47 N,c98 N,c100 N],[54,112],[],[],[]⟩ ⟨[(0,⟨[.tmp 4 tI,.tmp 25 tI,.var 2 [some (.slice TCell),some (.slice TInstance),some (.slice .str),some (.slice TPort),some (.slice TWire),none,none,none,none,none],.row 3 TLink],[6]++rG 26 21,[],[(2,6,TLink)],[]⟩),(2,⟨[.tmp 60 tI,.row 4 tI,.tree 5 tI],[9,10]++rG 61 11++[84]++rG 72 12,[],[],[]⟩),(4,⟨[.tmp 88 tI,.var 2 [some (.slice TCell),some (.slice TInstance),some (.slice .str),some (.slice TPort),some (.slice TWire),none,none,none,none,none],.row 3 TLink,.row 6 tI,.row 7 (.slice tI)],[11,12,13,14]++rG 89 66,[],[(2,7,tI),(2,8,(.slice tI))],[]⟩),(6,⟨[.tmp 122 tI,.var 2 [some (.slice TCell),some (.slice TInstance),some (.slice .str),some (.slice TPort),some (.slice TWire),none,none,none,none,none],.row 3 TLink],[],[],[],[]⟩),(8,⟨[.tmp 127 tI,.var 2 [some (.slice TCell),some (.slice TInstance),some (.slice .str),some (.slice TPort),some (.slice TWire),none,none,none,none,none],.row 3 TLink],[],[],[],[]⟩)],[(1000004,[(8,none)])],[],[]⟩ N (ce _) Tryz.func35
def c101:CtP:=⟨(35,[]),S_20 N,Z_20 N,(cb Tryz.func35)⟩
def c102:CtP:=ctB (.pair (.slice Tl05Place) .nil) tN (F_126 N) [] N Tryz.func242
def c103:CtP:=ctB (.pair (.ptr Tview) tN) (.pair .bool .nil) (F_127 N) [c37 N,c102 N] N Tryz.func204
def c104:CtP:=ct ⟨(.pair TBlock tN),(.pair TCell .nil),(rF 7),F_128 N,false⟩ [] hnn [] N Tryz.func244
def c105:CtP:=ctB (.pair TArc (.pair (.ptr Tl05Place) .nil)) (.pair .bool .nil) (F_129 N) [c46 N] N Tryz.func245
def c106:CtP:=ct ⟨(.pair (.slice TArc) (.pair (.clo 245 (.pair (.ptr Tl05Place) .nil)) .nil)),tN,[false],F_130 N,false⟩ [245] ⟨[(0,⟨[.tmp 8 tI],[5]++rG 9 8++[18],[],[],[]⟩)],[],[],[]⟩ [c105 N] N Tryz.func268
def c107:CtP:=ct ⟨(.pair (.slice TArc) (.pair (.clo 245 (.pair (.ptr Tl05Place) .nil)) .nil)),(.pair .bool .nil),[false],F_131 N,false⟩ [245] hnn [c106 N] N Tryz.func243
def c108:CtP:=ctA (.pair (.ptr Tview) (.pair Tl05Place .nil)) (.pair .bool .nil) (F_132 N) ⟨[],[(3,[(3,some Tl05Place)])],[],[]⟩ [c107 N,c104 N] N Tryz.func205
def c109:CtP:=ctB tN (.pair .bool .nil) (F_133 N) [] N Tryz.func112
def c110:CtP:=ctB (.pair (.ptr Tview) (.pair tI (.pair tI tN))) (.pair .bool .nil) (F_134 N) [c109 N,c37 N,c103 N,c108 N] N Tryz.func159
def c111:CtP:=ctB (.pair (.ptr Tview) (.pair TViolation .nil)) (.pair .bool .nil) (F_135 N) [c110 N] N Tryz.func97
def c112:CtP:=ctA (.pair (.ptr Tview) (.pair (.slice TViolation) .nil)) (.pair .bool .nil) (F_136 N) ⟨[(0,⟨[.tmp 9 tI],[5,6]++rG 10 46,[],[],[]⟩)],[],[],[]⟩ [c111 N] N Tryz.func42
def c113:CtP:=ctB (.pair TDesign (.pair TLibrary (.pair Tl05Place .nil))) (.pair .str .nil) (F_137 N) [] N Tryz.func96
def c114:CtP:=ctB (.pair (.ptr Tview) tN) (.pair .str .nil) (F_138 N) [c113 N] N Tryz.func98
def c115:CtP:=⟨(117,[]),q135 N,q250 N,q255⟩
def c116:CtP:=ctB tN (.pair .str .nil) (F_139 N) [c115 N] N Tryz.func56
def c117:CtP:=⟨(118,[]),q186 N,q359 N,q365⟩
def c118:CtP:=ctB tN (.pair .str .nil) (F_140 N) [c116 N,c117 N] N Tryz.func58
def S_21(N:Nat):FnSpec:=⟨.pair (.ptr Tview) (.pair (.slice TViolation) .nil),(.pair .str .nil),[false],F_21 N,false⟩
theorem Z_21(N:Nat):SN 43 (S_21 N):=snd ⟨esP [c118 N,c114 N],[],[],[(0,q22)],[]⟩ ⟨[(0,⟨[.tmp 5 .str,.tmp 10 tI],[7]++rG 11 22,[],[],[]⟩)],[],[],[]⟩ N (ce _) Tryz.func43 (ht:=q472)
def c119:CtP:=⟨(43,[]),S_21 N,Z_21 N,(cb Tryz.func43)⟩
def c120:CtP:=ctB (.pair TBlock (.pair (.slice TViolation) .nil)) (.pair .str .nil) (F_141 N) [c92 N,c101 N,c112 N,c119 N] N Tryz.func16
def c121:CtP:=ctB (.pair TBlock (.pair TViolation .nil)) (.pair .bool .nil) (F_142 N) [c8 N,c28 N,c27 N,c29 N] N Tryz.func73
def c122:CtP:=ctA (.pair TBlock (.pair (.slice TViolation) .nil)) (.pair .bool .nil) (F_143 N) ⟨[(0,⟨[.tmp 5 tI],rG 6 57,[],[],[]⟩)],[],[],[]⟩ [c121 N] N Tryz.func29
def c123:CtP:=ctB (.pair TBlock (.pair (.slice TViolation) .nil)) (.pair .bool .nil) (F_144 N) [c22 N,c122 N] N Tryz.func17
def S_22(N:Nat):FnSpec:=⟨.pair (.slice TViolation) .nil,(.pair (.slice TViolation) .nil),[true],F_22 N,false⟩
def H_22:Hints:=⟨[],[],[(2,TViolation)],[]⟩
def C_22(N:Nat):Ctx:=⟨[],[],[],[],[]⟩
theorem E_22(N:Nat)(xs:List (Ty.den TViolation)):pevFnW Tryz.prog (C_22 N) N H_22 (S_22 N) Tryz.f169 [.one (.sln TViolation xs)]=F_22 N (xs,()):=by kernel_rfl
theorem E0_22(N:Nat):pevFnW Tryz.prog (C_22 N) N H_22 (S_22 N) Tryz.f169 [.one (.slz TViolation)]=F_22 N ([],()):=by kernel_rfl
theorem Z_22(N:Nat):Sound Tryz.prog PRE 169 (S_22 N):=q188 (C:=C_22 N) (H:=H_22) (N:=N) (e:=TViolation) (rs:=(.pair (.slice TViolation) .nil)) (own:=[true]) (F:=F_22 N) (q331 q151 (by kernel_rfl) q111) Tryz.func169 (fun xs r h=>(E_22 N xs).trans h) (fun r h=>(E0_22 N).trans h)
def c124:CtP:=⟨(169,[]),S_22 N,Z_22 N,(cb Tryz.func169)⟩
def c125:CtP:=ctB (.pair TViolation (.pair (.ptr tI) .nil)) (.pair .bool .nil) (F_145 N) [] N Tryz.func170
def c126:CtP:=ct ⟨(.pair (.slice TViolation) (.pair (.clo 170 (.pair (.ptr tI) .nil)) .nil)),tN,[false],F_146 N,false⟩ [170] ⟨[(0,⟨[.tmp 8 tI],[5]++rG 9 8++[18],[],[],[]⟩)],[],[],[]⟩ [c125 N] N Tryz.func211
def S_23(N:Nat):FnSpec:=⟨.pair (.slice TViolation) tN,(.pair (.slice TViolation) .nil),[true],F_23 N,false⟩
theorem KI_168:CB 168:=cb Tryz.func168
def I_24:InF:=⟨168,Tryz.f168,⟨[(0,⟨[.tmp 5 tI,.tmp 6 tI,.row 1 TViolation],[7]++rG 16 20,[],[],[]⟩)],[],[],[]⟩,[],false⟩
theorem Z_23(N:Nat):SN 113 (S_23 N):=snd ⟨esP [c124 N,c125 N,c126 N],[],[I_24],[],[]⟩ ⟨[],[(1,[(3,some tI)])],[(4,TViolation)],[]⟩ N (ce _) Tryz.func113 (hi:=(q382 Tryz.func168 KI_168 q486))
def c127:CtP:=⟨(113,[]),S_23 N,Z_23 N,(cb Tryz.func113)⟩
def c128:CtP:=ct ⟨(.pair TBlock (.pair (.slice TViolation) tN)),(.pair (.slice TViolation) tN),[true,false],F_147 N,false⟩ [] ⟨[],[],[(6,TViolation)],[]⟩ [c92 N,c101 N,c112 N,c109 N,c127 N] N Tryz.func52
def c129:CtP:=ctA (.pair (.slice TViolation) .nil) tN (F_148 N) ⟨[(0,⟨[.tmp 3 tI,.tmp 8 tI],[5]++rG 9 8,[],[],[]⟩)],[],[],[]⟩ [] N Tryz.func53
def c130:CtP:=ctB tN (.pair .bool .nil) (F_149 N) [c37 N] N Tryz.func54
def c131:CtP:=ctB (.pair TViolation (.pair TViolation .nil)) tN (F_150 N) [] N Tryz.func116
def c132:CtP:=ct ⟨(.pair (.slice TViolation) (.pair (.clo 116 .nil) .nil)),(.pair TViolation .nil),[false,false,false],F_151 N,false⟩ [116] ⟨[(0,⟨[.tmp 6 tI,.var 1 [some tI,some tI,some tI]],rG 14 18,[],[],[]⟩)],[],[],[]⟩ [c131 N] N Tryz.func115
def c133:CtP:=ct ⟨(.pair (.slice TViolation) .nil),(.pair TViolation .nil),[false,false,false],F_152 N,false⟩ [] hnn [c132 N] N Tryz.func55
def c134:CtP:=ctB (.pair (.slice TViolation) .nil) tN (F_153 N) [] N Tryz.func57
def S_25(N:Nat):FnSpec:=⟨.pair TBlock (.pair (.slice TViolation) .nil),(.pair .str .nil),[false],F_25 N,false⟩
theorem Z_25(N:Nat):SN 18 (S_25 N):=snd ⟨esP [c128 N,c129 N,c130 N,c133 N,c116 N,c134 N,c118 N],[],[],[(0,q22)],[]⟩ ⟨[(0,⟨[.tmp 5 .str,.tmp 6 tI],rG 7 49,[],[],[]⟩)],[],[],[]⟩ N (ce _) Tryz.func18 (ht:=q472)
def c135:CtP:=⟨(18,[]),S_25 N,Z_25 N,(cb Tryz.func18)⟩
def c136:CtP:=ctB (.pair .str (.pair .str .nil)) (.pair .bool .nil) (F_154 N) [] N Tryz.func152
def c137:CtP:=ctB (.pair .str (.pair .str .nil)) (.pair .str .nil) (F_155 N) [c136 N] N Tryz.func90
def c138:CtP:=ctB (.pair .str (.pair .str .nil)) (.pair .str .nil) (F_156 N) [c137 N] N Tryz.func38
def S_26(N:Nat):FnSpec:=⟨tN,(.pair .str .nil),[false],F_26 N,false⟩
theorem Z_26(N:Nat):SN 93 (S_26 N):=snd ⟨esP [c130 N,c118 N],[],[],[],[]⟩ ⟨[],[],[],[]⟩ N (ce _) Tryz.func93
def S_27(N:Nat):FnSpec:=⟨.pair .str .nil,(.pair tI (.pair .bool .nil)),[],F_27 N,false⟩
theorem Z_27(N:Nat):SN 39 (S_27 N):=q540 (Z_26 N)
def c139:CtP:=⟨(39,[]),S_27 N,Z_27 N,(cb Tryz.func39)⟩
def c140:CtP:=ctB (.pair Tl05Place (.pair (.ptr TDesign) (.pair (.ptr TLibrary) (.pair (.ptr .str) .nil)))) (.pair .bool .nil) (F_157 N) [c113 N] N Tryz.func95
def c141:CtP:=ct ⟨(.pair (.slice Tl05Place) (.pair (.clo 95 (.pair (.ptr TDesign) (.pair (.ptr TLibrary) (.pair (.ptr .str) .nil)))) .nil)),tN,[false],F_158 N,false⟩ [95] ⟨[(0,⟨[.tmp 8 tI],[5]++rG 9 8++[18],[],[],[]⟩)],[],[],[]⟩ [c140 N] N Tryz.func94
def c142:CtP:=ctA (.pair TDesign (.pair TLibrary (.pair .str .nil))) tN (F_159 N) ⟨[],[(1,[(3,some TDesign),(4,some TLibrary),(5,some .str)])],[],[]⟩ [c89 N,c141 N] N Tryz.func40
def S_28(N:Nat):FnSpec:=⟨.pair TBlock (.pair .str .nil),(.pair (.slice TViolation) tN),[true,false],F_28 N,false⟩
theorem KI_36:CB 36:=cb Tryz.func36
def I_29:InF:=⟨36,Tryz.f36,⟨[],[],[],[]⟩,[],false⟩
def c143:CtP:=⟨(37,[]),q207 N,q435 N,q392⟩
theorem Z_28(N:Nat):SN 8 (S_28 N):=sndT ⟨esP [c92 N,c101 N,c143 N,c138 N,c139 N,c142 N,c42 N,c112 N,c119 N],[],[I_29],[(0,q22)],[]⟩ ⟨[(1,⟨[.var 4 [none],.row 7 TViolation],[],[],[(4,0,TViolation)],[]⟩)],[],[],[(1,0,TViolation)]⟩ N (ce _) Tryz.func8 (hi:=(q382 Tryz.func36 KI_36 q486)) (ht:=q472)
def c144:CtP:=⟨(8,[]),S_28 N,Z_28 N,(cb Tryz.func8)⟩
def c145:CtP:=ct ⟨(.pair TBlock (.pair (.slice TViolation) tN)),(.pair tI (.pair tI tN)),[false,false,false],F_160 N,false⟩ [] hnn [c128 N,c129 N,c134 N] N Tryz.func19
def c146:CtP:=ct ⟨(.pair TBlock (.pair (.slice TViolation) tN)),(.pair TViolation tN),(rF 4),F_161 N,false⟩ [] hnn [c128 N,c133 N] N Tryz.func20
def c147:CtP:=ct ⟨(.pair (.slice TViolation) tN),(.pair tI (.pair tI tN)),[false,false,false],F_162 N,false⟩ [] ⟨[(0,⟨[.tmp 7 tI,.tmp 8 tI,.tmp 9 tI,.tmp 10 tI],rG 11 29,[],[],[]⟩)],[],[],[]⟩ [] N Tryz.func59
def c148:CtP:=ctB tN (.pair .str .nil) (F_163 N) [] N Tryz.func60
def S_30(N M:Nat):FnSpec:=⟨tN,(.pair .str .nil),[false],F_30 N M,false⟩
def C_30(N M:Nat):Ctx:=⟨[((61,[]),S_8 N N),((119,[]),(c8 N).S),((62,[]),S_30 N M)],[],[],[],[]⟩
theorem K_30:CB 62:=cb Tryz.func62
theorem Z_30(N:Nat):∀ M,SN 62 (S_30 N M)
 | 0=>fun w args x r ok _ _ _ h=>nomatch (show none=some r from h)
 | M+1=>snd (C_30 N M) ⟨[],[],[],[]⟩ N (q374 (wk (Z_8 N N)) K_8 (q374 (c8 N).z (cb Tryz.func119) (q374 (Z_30 N M) K_30 q111))) Tryz.func62
def c149(N M:Nat):CtP:=⟨(62,[]),S_30 N M,Z_30 N M,K_30⟩
def c150:CtP:=ctA (.pair TBlock (.pair (.slice TViolation) .nil)) (.pair .str .nil) (F_164 N) ⟨[(0,⟨[.tmp 5 .str,.tmp 6 tI],[7,8,9]++rG 15 30,[],[],[]⟩)],[],[],[]⟩ [c123 N,c147 N,c148 N,c2 N N,c149 N N] N Tryz.func21
def S_31(N:Nat):FnSpec:=⟨.pair (.slice (.int .u8)) .nil,(.pair .bool .nil),[false],F_31 N,false⟩
theorem Z_31(N:Nat):SN 4 (S_31 N):=snd ⟨esP [c144 N,c0 N,c36 N,c120 N,c123 N,c135 N,c145 N,c146 N,c150 N],[],[],[],[]⟩ ⟨[(0,⟨[.tmp 9 tI],rG 65 15,[],[],[]⟩)],[],[],[]⟩ N (ce _) Tryz.func4
end
end Go.Proofs.YtefbaonpbemejaaGreatDoor
