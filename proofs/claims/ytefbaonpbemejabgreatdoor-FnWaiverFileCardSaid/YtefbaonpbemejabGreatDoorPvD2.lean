/- The functions' contracts. Printed by my dec.py. No condition of its own. -/
import Derived.Test.YtefbaonpbemejabGreatDoorPvD1
namespace Go.Proofs.YtefbaonpbemejabGreatDoor
open Go.RowKit
set_option maxRecDepth 100000
set_option linter.unusedVariables false
noncomputable section
variable (N:Nat)
def c98:CtP:=ct ⟨(.pair TBlock tN),(.pair (.slice tI) .nil),[true],F_117 N,false⟩ [] ⟨[(0,⟨[.tmp 8 tI,.row 3 tI],rG 20 28,[],[],[]⟩)],[],[],[]⟩ [c97 N] N Tryz.func126
def c99:CtP:=ct ⟨(.pair TBlock tN),(.pair (.slice tI) .nil),[true],F_118 N,false⟩ [] ⟨[(0,⟨[.tmp 19 tI,.row 2 tI],[8]++rG 20 11,[(6,tI)],[],[]⟩)],[],[],[]⟩ [c98 N] N Tryz.func68
def S_17(N:Nat):FnSpec:=⟨.pair TBlock .nil,(.pair (.ptr Tview) .nil),[false],F_17 N,false⟩
theorem Z_17(N:Nat):SN 29 (S_17 N):=snd ⟨esP [c88 N,c93 N,c46 N,c97 N,c99 N],[54,112],[],[],[]⟩ ⟨[(0,⟨[.tmp 4 tI,.tmp 25 tI,.var 2 [some (.slice TCell),some (.slice TInstance),some (.slice .str),some (.slice TPort),some (.slice TWire),none,none,none,none,none],.row 3 TLink],[6]++rG 26 21,[],[(2,6,TLink)],[]⟩),(2,⟨[.tmp 60 tI,.row 4 tI,.tree 5 tI],[9,10]++rG 61 11++[84]++rG 72 12,[],[],[]⟩),(4,⟨[.tmp 88 tI,.var 2 [some (.slice TCell),some (.slice TInstance),some (.slice .str),some (.slice TPort),some (.slice TWire),none,none,none,none,none],.row 3 TLink,.row 6 tI,.row 7 (.slice tI)],[11,12,13,14]++rG 89 66,[],[(2,7,tI),(2,8,(.slice tI))],[]⟩),(6,⟨[.tmp 122 tI,.var 2 [some (.slice TCell),some (.slice TInstance),some (.slice .str),some (.slice TPort),some (.slice TWire),none,none,none,none,none],.row 3 TLink],[],[],[],[]⟩),(8,⟨[.tmp 127 tI,.var 2 [some (.slice TCell),some (.slice TInstance),some (.slice .str),some (.slice TPort),some (.slice TWire),none,none,none,none,none],.row 3 TLink],[],[],[],[]⟩)],[(1000004,[(8,none)])],[],[]⟩ N (ce _) Tryz.func29
def c100:CtP:=⟨(29,[]),S_17 N,Z_17 N,(cb Tryz.func29)⟩
def c101:CtP:=ctB (.pair (.slice Tl05Place) .nil) tN (F_119 N) [] N Tryz.func207
def c102:CtP:=ctB (.pair (.ptr Tview) tN) (.pair .bool .nil) (F_120 N) [c36 N,c101 N] N Tryz.func174
def c103:CtP:=ct ⟨(.pair TBlock tN),(.pair TCell .nil),(rF 7),F_121 N,false⟩ [] hnn [] N Tryz.func209
def c104:CtP:=ctB (.pair TArc (.pair (.ptr Tl05Place) .nil)) (.pair .bool .nil) (F_122 N) [c45 N] N Tryz.func210
def c105:CtP:=ct ⟨(.pair (.slice TArc) (.pair (.clo 210 (.pair (.ptr Tl05Place) .nil)) .nil)),tN,[false],F_123 N,false⟩ [210] ⟨[(0,⟨[.tmp 8 tI],[5]++rG 9 8++[18],[],[],[]⟩)],[],[],[]⟩ [c104 N] N Tryz.func248
def c106:CtP:=ct ⟨(.pair (.slice TArc) (.pair (.clo 210 (.pair (.ptr Tl05Place) .nil)) .nil)),(.pair .bool .nil),[false],F_124 N,false⟩ [210] hnn [c105 N] N Tryz.func208
def c107:CtP:=ctA (.pair (.ptr Tview) (.pair Tl05Place .nil)) (.pair .bool .nil) (F_125 N) ⟨[],[(3,[(3,some Tl05Place)])],[],[]⟩ [c106 N,c103 N] N Tryz.func175
def c108:CtP:=ctB tN (.pair .bool .nil) (F_126 N) [] N Tryz.func176
def c109:CtP:=ctB (.pair (.ptr Tview) (.pair tI (.pair tI tN))) (.pair .bool .nil) (F_127 N) [c36 N,c102 N,c107 N,c108 N] N Tryz.func134
def c110:CtP:=ctB tN (.pair .bool .nil) (F_128 N) [c36 N] N Tryz.func135
def c111:CtP:=ctB (.pair (.ptr Tview) (.pair TWaiver .nil)) (.pair .bool .nil) (F_129 N) [c109 N,c110 N,c39 N] N Tryz.func76
def c112:CtP:=ctA (.pair (.slice TWaiver) (.pair TWaiver .nil)) tN (F_130 N) ⟨[(0,⟨[.tmp 8 tI],[5]++rG 9 8++[18],[],[],[]⟩)],[],[],[]⟩ [] N Tryz.func137
def c113:CtP:=ctB (.pair (.slice TWaiver) (.pair TWaiver .nil)) (.pair .bool .nil) (F_131 N) [c112 N] N Tryz.func77
def c114:CtP:=ctA (.pair (.ptr Tview) (.pair (.slice TWaiver) .nil)) (.pair .bool .nil) (F_132 N) ⟨[(0,⟨[.tmp 9 tI],[5,6]++rG 10 16,[],[],[]⟩)],[],[],[]⟩ [c111 N,c113 N] N Tryz.func34
def c115:CtP:=ctB (.pair TDesign (.pair TLibrary (.pair Tl05Place .nil))) (.pair .str .nil) (F_133 N) [] N Tryz.func132
def c116:CtP:=ctB (.pair (.ptr Tview) tN) (.pair .str .nil) (F_134 N) [c115 N] N Tryz.func90
def c117:CtP:=⟨(150,[]),q126 N,q229 N,q246⟩
def c118:CtP:=ctB tN (.pair .str .nil) (F_135 N) [c117 N] N Tryz.func91
def S_18(N:Nat):FnSpec:=⟨.pair (.ptr Tview) (.pair TWaiver .nil),(.pair .str .nil),[false],F_18 N,false⟩
def c119:CtP:=⟨(89,[]),q222 N,q407 N,q412⟩
theorem Z_18(N:Nat):SN 44 (S_18 N):=snd ⟨esP [c119 N,c116 N,c118 N],[],[],[(0,q18)],[]⟩ ⟨[],[],[],[]⟩ N (ce _) Tryz.func44 (ht:=q588)
def c120:CtP:=⟨(44,[]),S_18 N,Z_18 N,(cb Tryz.func44)⟩
def c121:CtP:=ctA (.pair TBlock (.pair (.slice TWaiver) .nil)) (.pair .str .nil) (F_136 N) ⟨[(0,⟨[.tmp 6 .str,.tmp 20 tI],[8]++rG 21 10,[],[],[]⟩)],[],[],[]⟩ [c91 N,c100 N,c114 N,c120 N] N Tryz.func16
def c122:CtP:=ctB (.pair TBlock (.pair (.slice TWaiver) .nil)) (.pair .bool .nil) (F_137 N) [c22 N,c32 N] N Tryz.func17
def c123:CtP:=ctB (.pair .str (.pair .str .nil)) (.pair .bool .nil) (F_138 N) [] N Tryz.func128
def c124:CtP:=ct ⟨(.pair .str (.pair .str .nil)),(.pair .str (.pair .bool .nil)),[false,false],F_139 N,false⟩ [] hnn [c123 N] N Tryz.func71
def c125:CtP:=ct ⟨(.pair .str (.pair .str .nil)),(.pair .str (.pair .bool .nil)),[false,false],F_140 N,false⟩ [] hnn [c124 N] N Tryz.func31
def c126:CtP:=ctB (.pair Tl05Place (.pair (.ptr TDesign) (.pair (.ptr TLibrary) (.pair (.ptr .str) .nil)))) (.pair .bool .nil) (F_141 N) [c115 N] N Tryz.func131
def c127:CtP:=ct ⟨(.pair (.slice Tl05Place) (.pair (.clo 131 (.pair (.ptr TDesign) (.pair (.ptr TLibrary) (.pair (.ptr .str) .nil)))) .nil)),tN,[false],F_142 N,false⟩ [131] ⟨[(0,⟨[.tmp 8 tI],[5]++rG 9 8++[18],[],[],[]⟩)],[],[],[]⟩ [c126 N] N Tryz.func130
def c128:CtP:=ctA (.pair TDesign (.pair TLibrary (.pair .str .nil))) tN (F_143 N) ⟨[],[(1,[(3,some TDesign),(4,some TLibrary),(5,some .str)])],[],[]⟩ [c88 N,c127 N] N Tryz.func73
def S_19(N:Nat):FnSpec:=⟨.pair .str .nil,(.pair tI (.pair .bool .nil)),[],F_19 N,false⟩
theorem Z_19(N:Nat):SN 75 (S_19 N):=q447 (c118 N).z
def c129:CtP:=⟨(75,[]),S_19 N,Z_19 N,(cb Tryz.func75)⟩
def S_20(N:Nat):FnSpec:=⟨.pair (.ptr Tview) (.pair .str .nil),(.pair TWaiver (.pair .bool .nil)),(rF 6),F_20 N,false⟩
def c130:CtP:=⟨(72,[]),q189 N,q366 N,q367⟩
theorem Z_20(N:Nat):SN 32 (S_20 N):=snd ⟨esP [c120 N,c130 N,c128 N,c41 N,c129 N,c111 N],[],[],[(0,q18)],[]⟩ ⟨[],[],[],[]⟩ N (ce _) Tryz.func32 (ht:=q588)
def c131:CtP:=⟨(32,[]),S_20 N,Z_20 N,(cb Tryz.func32)⟩
def c132:CtP:=ctB (.pair (.slice TWaiver) .nil) tN (F_144 N) [] N Tryz.func33
def S_21(N:Nat):FnSpec:=⟨.pair TBlock (.pair .str .nil),(.pair (.slice TWaiver) (.pair tI tN)),[true,false,false],F_21 N,false⟩
theorem KI_30:CB 30:=cb Tryz.func30
def I_22:InF:=⟨30,Tryz.f30,⟨[],[],[],[]⟩,[],false⟩
theorem Z_21(N:Nat):SN 8 (S_21 N):=sndT ⟨esP [c91 N,c100 N,c125 N,c131 N,c132 N,c114 N],[],[I_22],[],[]⟩ ⟨[(1,⟨[.var 5 [none],.row 8 TWaiver],[],[],[(5,0,TWaiver)],[]⟩)],[],[],[(1,0,TWaiver)]⟩ N (ce _) Tryz.func8 (hi:=(q611 Tryz.func30 KI_30 q705))
def c133:CtP:=⟨(8,[]),S_21 N,Z_21 N,(cb Tryz.func8)⟩
def S_23(N:Nat):FnSpec:=⟨.pair (.slice (.int .u8)) .nil,(.pair .bool .nil),[false],F_23 N,false⟩
theorem Z_23(N:Nat):SN 4 (S_23 N):=snd ⟨esP [c133 N,c0 N,c35 N,c121 N,c122 N],[],[],[],[]⟩ ⟨[(0,⟨[.tmp 9 tI],rG 51 15,[],[],[]⟩)],[],[],[]⟩ N (ce _) Tryz.func4
end
end Go.Proofs.YtefbaonpbemejabGreatDoor
