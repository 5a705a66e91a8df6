/- The functions' contracts. Printed by my dec.py. No condition of its own. -/
import Derived.Test.YtaljimgiglekhaaGreatDoorPvD1
namespace Go.Proofs.YtaljimgiglekhaaGreatDoor
open Go.RowKit
set_option maxRecDepth 100000
set_option linter.unusedVariables false
def S_109(N:Nat):FnSpec:=⟨.pair TBlock tN,(.pair (.slice tI) .nil),[true],F_109 N,false⟩
theorem Z_109(N:Nat):SN 87 (S_109 N):=snd ⟨[((56,[]),S_108 N)],[],[],[],[]⟩ ⟨[(0,⟨[.tmp 8 tI,.row 3 tI],rG 20 28,[],[],[]⟩)],[],[],[]⟩ N ((q8 (Z_108 N) K_108 q11)) Tryz.func87
def S_110(N:Nat):FnSpec:=⟨.pair TBlock tN,(.pair (.slice tI) .nil),[true],F_110 N,false⟩
theorem Z_110(N:Nat):SN 57 (S_110 N):=snd ⟨[((87,[]),S_109 N)],[],[],[],[]⟩ ⟨[(0,⟨[.tmp 19 tI,.row 2 tI],[8]++rG 20 11,[(6,tI)],[],[]⟩)],[],[],[]⟩ N ((q8 (Z_109 N) (cb Tryz.func87) q11)) Tryz.func57
def S_111(N:Nat):FnSpec:=⟨.pair TBlock .nil,(.pair (.ptr Tview) .nil),[false],F_111 N,false⟩
theorem K_111:CB 24:=cb Tryz.func24
theorem Z_111(N:Nat):SN 24 (S_111 N):=snd ⟨[((51,[]),S_99 N),((54,[]),S_104 N),((55,[]),S_57 N),((56,[]),S_108 N),((57,[]),S_110 N)],[54,112],[],[],[]⟩ ⟨[(0,⟨[.tmp 4 tI,.tmp 25 tI,.var 2 [some (.slice TCell),some (.slice TInstance),some (.slice .str),some (.slice TPort),some (.slice TWire),none,none,none,none,none],.row 3 TLink],[6]++rG 26 21,[],[(2,6,TLink)],[]⟩),(2,⟨[.tmp 60 tI,.row 4 tI,.tree 5 tI],[9,10]++rG 61 11++[84]++rG 72 12,[],[],[]⟩),(4,⟨[.tmp 88 tI,.var 2 [some (.slice TCell),some (.slice TInstance),some (.slice .str),some (.slice TPort),some (.slice TWire),none,none,none,none,none],.row 3 TLink,.row 6 tI,.row 7 (.slice tI)],[11,12,13,14]++rG 89 66,[],[(2,7,tI),(2,8,(.slice tI))],[]⟩),(6,⟨[.tmp 122 tI,.var 2 [some (.slice TCell),some (.slice TInstance),some (.slice .str),some (.slice TPort),some (.slice TWire),none,none,none,none,none],.row 3 TLink],[],[],[],[]⟩),(8,⟨[.tmp 127 tI,.var 2 [some (.slice TCell),some (.slice TInstance),some (.slice .str),some (.slice TPort),some (.slice TWire),none,none,none,none,none],.row 3 TLink],[],[],[],[]⟩)],[(1000004,[(8,none)])],[],[]⟩ N ((q8 (Z_99 N) K_99 (q8 (Z_104 N) (cb Tryz.func54) (q8 (Z_57 N) K_57 (q8 (Z_108 N) K_108 (q8 (Z_110 N) (cb Tryz.func57) q11)))))) Tryz.func24
def S_112(N:Nat):FnSpec:=⟨.pair (.slice Tl05Place) .nil,tN,[false],F_112 N,false⟩
theorem Z_112(N:Nat):SN 113 (S_112 N):=snd ⟨[],[],[],[],[]⟩ ⟨[],[],[],[]⟩ N q11 Tryz.func113
def S_113(N:Nat):FnSpec:=⟨.pair (.ptr Tview) tN,(.pair .bool .nil),[false],F_113 N,false⟩
theorem Z_113(N:Nat):SN 88 (S_113 N):=snd ⟨[((53,[]),S_49 N),((113,[]),S_112 N)],[],[],[],[]⟩ ⟨[],[],[],[]⟩ N ((q8 (Z_49 N) K_49 (q8 (Z_112 N) (cb Tryz.func113) q11))) Tryz.func88
def S_114(N:Nat):FnSpec:=⟨.pair TBlock tN,(.pair TCell .nil),[false,false,false,false,false,false,false],F_114 N,false⟩
theorem Z_114(N:Nat):SN 115 (S_114 N):=snd ⟨[],[],[],[],[]⟩ ⟨[],[],[],[]⟩ N q11 Tryz.func115
def S_115(N:Nat):FnSpec:=⟨.pair TArc (.pair (.ptr Tl05Place) .nil),(.pair .bool .nil),[false],F_115 N,false⟩
theorem Z_115(N:Nat):SN 116 (S_115 N):=snd ⟨[((117,[]),S_56 N)],[],[],[],[]⟩ ⟨[],[],[],[]⟩ N ((q8 (Z_56 N) K_56 q11)) Tryz.func116
def S_116(N:Nat):FnSpec:=⟨.pair (.slice TArc) (.pair (.clo 116 (.pair (.ptr Tl05Place) .nil)) .nil),tN,[false],F_116 N,false⟩
theorem Z_116(N:Nat):SN 136 (S_116 N):=snd ⟨[((116,[]),S_115 N)],[],[],[],[]⟩ ⟨[(0,⟨[.tmp 8 tI],[5]++rG 9 8++[18],[],[],[]⟩)],[],[],[]⟩ N ((q8 (Z_115 N) (cb Tryz.func116) q11)) Tryz.func136
def S_117(N:Nat):FnSpec:=⟨.pair (.slice TArc) (.pair (.clo 116 (.pair (.ptr Tl05Place) .nil)) .nil),(.pair .bool .nil),[false],F_117 N,false⟩
theorem Z_117(N:Nat):SN 114 (S_117 N):=snd ⟨[((136,[116]),S_116 N)],[],[],[],[]⟩ ⟨[],[],[],[]⟩ N ((q8 (Z_116 N) (cb Tryz.func136) q11)) Tryz.func114
def S_118(N:Nat):FnSpec:=⟨.pair (.ptr Tview) (.pair Tl05Place .nil),(.pair .bool .nil),[false],F_118 N,false⟩
theorem Z_118(N:Nat):SN 89 (S_118 N):=snd ⟨[((114,[116]),S_117 N),((115,[]),S_114 N)],[],[],[],[]⟩ ⟨[],[(3,[(3,some Tl05Place)])],[],[]⟩ N ((q8 (Z_117 N) (cb Tryz.func114) (q8 (Z_114 N) (cb Tryz.func115) q11))) Tryz.func89
def S_119(N:Nat):FnSpec:=⟨tN,(.pair .bool .nil),[false],F_119 N,false⟩
theorem Z_119(N:Nat):SN 90 (S_119 N):=snd ⟨[],[],[],[],[]⟩ ⟨[],[],[],[]⟩ N q11 Tryz.func90
def S_120(N:Nat):FnSpec:=⟨.pair (.ptr Tview) (.pair tI (.pair tI tN)),(.pair .bool .nil),[false],F_120 N,false⟩
theorem K_120:CB 58:=cb Tryz.func58
theorem Z_120(N:Nat):SN 58 (S_120 N):=snd ⟨[((53,[]),S_49 N),((88,[]),S_113 N),((89,[]),S_118 N),((90,[]),S_119 N)],[],[],[],[]⟩ ⟨[],[],[],[]⟩ N ((q8 (Z_49 N) K_49 (q8 (Z_113 N) (cb Tryz.func88) (q8 (Z_118 N) (cb Tryz.func89) (q8 (Z_119 N) (cb Tryz.func90) q11))))) Tryz.func58
def S_121(N:Nat):FnSpec:=⟨.pair (.ptr Tview) (.pair TViolation .nil),(.pair .bool .nil),[false],F_121 N,false⟩
theorem K_121:CB 26:=cb Tryz.func26
theorem Z_121(N:Nat):SN 26 (S_121 N):=snd ⟨[((58,[]),S_120 N)],[],[],[],[]⟩ ⟨[],[],[],[]⟩ N ((q8 (Z_120 N) K_120 q11)) Tryz.func26
def S_122(N:Nat):FnSpec:=⟨.pair (.ptr Tview) (.pair (.slice TViolation) .nil),(.pair .bool .nil),[false],F_122 N,false⟩
theorem Z_122(N:Nat):SN 40 (S_122 N):=snd ⟨[((26,[]),S_121 N)],[],[],[],[]⟩ ⟨[(0,⟨[.tmp 9 tI],[5,6]++rG 10 46,[],[],[]⟩)],[],[],[]⟩ N ((q8 (Z_121 N) K_121 q11)) Tryz.func40
def S_123(N:Nat):FnSpec:=⟨tN,(.pair .bool .nil),[false],F_123 N,false⟩
theorem K_123:CB 23:=cb Tryz.func23
theorem Z_123(N:Nat):SN 23 (S_123 N):=snd ⟨[((53,[]),S_49 N)],[],[],[],[]⟩ ⟨[],[],[],[]⟩ N ((q8 (Z_49 N) K_49 q11)) Tryz.func23
def S_124(N:Nat):FnSpec:=⟨.pair (.ptr Tview) (.pair TWaiver .nil),(.pair .bool .nil),[false],F_124 N,false⟩
theorem K_124:CB 25:=cb Tryz.func25
theorem Z_124(N:Nat):SN 25 (S_124 N):=snd ⟨[((23,[]),S_123 N),((58,[]),S_120 N),((59,[]),S_50 N)],[],[],[],[]⟩ ⟨[],[],[],[]⟩ N ((q8 (Z_123 N) K_123 (q8 (Z_120 N) K_120 (q8 (Z_50 N) K_50 q11)))) Tryz.func25
def S_125(N:Nat):FnSpec:=⟨.pair (.slice TWaiver) (.pair TWaiver .nil),tN,[false],F_125 N,false⟩
theorem Z_125(N:Nat):SN 104 (S_125 N):=snd ⟨[],[],[],[],[]⟩ ⟨[(0,⟨[.tmp 8 tI],[5]++rG 9 8++[18],[],[],[]⟩)],[],[],[]⟩ N q11 Tryz.func104
def S_126(N:Nat):FnSpec:=⟨.pair (.slice TWaiver) (.pair TWaiver .nil),(.pair .bool .nil),[false],F_126 N,false⟩
theorem Z_126(N:Nat):SN 72 (S_126 N):=snd ⟨[((104,[]),S_125 N)],[],[],[],[]⟩ ⟨[],[],[],[]⟩ N ((q8 (Z_125 N) (cb Tryz.func104) q11)) Tryz.func72
def S_127(N:Nat):FnSpec:=⟨.pair (.ptr Tview) (.pair (.slice TWaiver) .nil),(.pair .bool .nil),[false],F_127 N,false⟩
theorem Z_127(N:Nat):SN 41 (S_127 N):=snd ⟨[((25,[]),S_124 N),((72,[]),S_126 N)],[],[],[],[]⟩ ⟨[(0,⟨[.tmp 9 tI],[5,6]++rG 10 16,[],[],[]⟩)],[],[],[]⟩ N ((q8 (Z_124 N) K_124 (q8 (Z_126 N) (cb Tryz.func72) q11))) Tryz.func41
def S_128(N:Nat):FnSpec:=⟨.pair TBlock (.pair (.slice TViolation) (.pair (.slice TWaiver) tN)),tN,[false],F_128 N,false⟩
theorem K_128:CB 17:=cb Tryz.func17
theorem Z_128(N:Nat):SN 17 (S_128 N):=snd ⟨[((22,[]),S_102 N),((23,[]),S_123 N),((24,[]),S_111 N),((40,[]),S_122 N),((41,[]),S_127 N)],[],[],[],[]⟩ ⟨[],[],[],[]⟩ N ((q8 (Z_102 N) K_102 (q8 (Z_123 N) K_123 (q8 (Z_111 N) K_111 (q8 (Z_122 N) (cb Tryz.func40) (q8 (Z_127 N) (cb Tryz.func41) q11)))))) Tryz.func17
def S_129(N:Nat):FnSpec:=⟨.pair (.slice TViolation) .nil,(.pair (.slice TViolation) .nil),[true],F_129 N,false⟩
def H_129:Hints:=⟨[],[],[(2,TViolation)],[]⟩
noncomputable def C_129(N:Nat):Ctx:=⟨[],[],[],[],[]⟩
theorem E_129(N:Nat)(xs:List (Ty.den TViolation)):pevFnW Tryz.prog (C_129 N) N H_129 (S_129 N) Tryz.f43 [.one (.sln TViolation xs)]=F_129 N (xs,()):=by kernel_rfl
theorem E0_129(N:Nat):pevFnW Tryz.prog (C_129 N) N H_129 (S_129 N) Tryz.f43 [.one (.slz TViolation)]=F_129 N ([],()):=by kernel_rfl
theorem Z_129(N:Nat):Sound Tryz.prog PRE 43 (S_129 N):=q101 (C:=C_129 N) (H:=H_129) (N:=N) (e:=TViolation) (rs:=(.pair (.slice TViolation) .nil)) (own:=[true]) (F:=F_129 N) (q301 q300 (by kernel_rfl) q11) Tryz.func43 (fun xs r h=>(E_129 N xs).trans h) (fun r h=>(E0_129 N).trans h)
def S_130(N:Nat):FnSpec:=⟨.pair TWaiver (.pair TViolation tN),(.pair .bool .nil),[false],F_130 N,false⟩
theorem K_130:CB 27:=cb Tryz.func27
theorem Z_130(N:Nat):SN 27 (S_130 N):=snd ⟨[],[],[],[],[]⟩ ⟨[],[],[],[]⟩ N q11 Tryz.func27
def S_131(N:Nat):FnSpec:=⟨.pair TWaiver (.pair (.ptr TViolation) (.pair (.ptr tI) .nil)),(.pair .bool .nil),[false],F_131 N,false⟩
theorem Z_131(N:Nat):SN 46 (S_131 N):=snd ⟨[((27,[]),S_130 N)],[],[],[],[]⟩ ⟨[],[],[],[]⟩ N ((q8 (Z_130 N) K_130 q11)) Tryz.func46
def S_132(N:Nat):FnSpec:=⟨.pair (.slice TWaiver) (.pair (.clo 46 (.pair (.ptr TViolation) (.pair (.ptr tI) .nil))) .nil),tN,[false],F_132 N,false⟩
theorem Z_132(N:Nat):SN 60 (S_132 N):=snd ⟨[((46,[]),S_131 N)],[],[],[],[]⟩ ⟨[(0,⟨[.tmp 8 tI],[5]++rG 9 8++[18],[],[],[]⟩)],[],[],[]⟩ N ((q8 (Z_131 N) (cb Tryz.func46) q11)) Tryz.func60
def S_133(N:Nat):FnSpec:=⟨.pair (.slice TWaiver) (.pair (.clo 46 (.pair (.ptr TViolation) (.pair (.ptr tI) .nil))) .nil),(.pair .bool .nil),[false],F_133 N,false⟩
theorem Z_133(N:Nat):SN 45 (S_133 N):=snd ⟨[((60,[46]),S_132 N)],[],[],[],[]⟩ ⟨[],[],[],[]⟩ N ((q8 (Z_132 N) (cb Tryz.func60) q11)) Tryz.func45
def S_134(N:Nat):FnSpec:=⟨.pair TViolation (.pair (.ptr (.slice TWaiver)) (.pair (.ptr tI) .nil)),(.pair .bool .nil),[false],F_134 N,false⟩
theorem K_134:CB 44:=cb Tryz.func44
theorem Z_134(N:Nat):SN 44 (S_134 N):=snd ⟨[((45,[46]),S_133 N)],[],[],[],[]⟩ ⟨[],[(1,[(3,some TViolation)])],[],[]⟩ N ((q8 (Z_133 N) (cb Tryz.func45) q11)) Tryz.func44
def S_135(N:Nat):FnSpec:=⟨.pair (.slice TViolation) (.pair (.clo 44 (.pair (.ptr (.slice TWaiver)) (.pair (.ptr tI) .nil))) .nil),tN,[false],F_135 N,false⟩
theorem Z_135(N:Nat):SN 61 (S_135 N):=snd ⟨[((44,[]),S_134 N)],[],[],[],[]⟩ ⟨[(0,⟨[.tmp 8 tI],[5]++rG 9 8++[18],[],[],[]⟩)],[],[],[]⟩ N ((q8 (Z_134 N) K_134 q11)) Tryz.func61
def S_136(N:Nat):FnSpec:=⟨.pair (.slice TViolation) (.pair (.slice TWaiver) tN),(.pair (.slice TViolation) .nil),[true],F_136 N,false⟩
theorem KI_42:CB 42:=cb Tryz.func42
noncomputable def I_137:InF:=⟨42,Tryz.f42,⟨[(0,⟨[.tmp 5 tI,.tmp 6 tI,.row 2 TViolation],[7]++rG 16 20,[],[],[]⟩)],[],[],[]⟩,[],false⟩
theorem K_136:CB 18:=cb Tryz.func18
theorem Z_136(N:Nat):SN 18 (S_136 N):=snd ⟨[((43,[]),S_129 N),((44,[]),S_134 N),((61,[44]),S_135 N)],[],[I_137],[],[]⟩ ⟨[],[(1,[(4,some (.slice TWaiver)),(5,some tI)])],[(6,TViolation)],[]⟩ N ((q8 (Z_129 N) (cb Tryz.func43) (q8 (Z_134 N) K_134 (q8 (Z_135 N) (cb Tryz.func61) q11)))) Tryz.func18 (hi:=(q441 Tryz.func42 KI_42 q538))
def S_138(N:Nat):FnSpec:=⟨.pair TBlock (.pair (.slice TViolation) (.pair (.slice TWaiver) tN)),(.pair (.slice TViolation) tN),[true,false],F_138 N,false⟩
theorem Z_138(N:Nat):SN 7 (S_138 N):=snd ⟨[((17,[]),S_128 N),((18,[]),S_136 N)],[],[],[],[]⟩ ⟨[],[],[(8,TViolation)],[]⟩ N ((q8 (Z_128 N) K_128 (q8 (Z_136 N) K_136 q11))) Tryz.func7
def S_139(N:Nat):FnSpec:=⟨.pair TBlock (.pair TViolation .nil),(.pair .bool .nil),[false],F_139 N,false⟩
theorem Z_139(N:Nat):SN 73 (S_139 N):=snd ⟨[((37,[]),S_40 N),((74,[]),S_21 N),((101,[]),S_41 N),((102,[]),S_42 N)],[],[],[],[]⟩ ⟨[],[],[],[]⟩ N ((q8 (Z_40 N) K_40 (q8 (Z_21 N) K_21 (q8 (Z_41 N) K_41 (q8 (Z_42 N) K_42 q11))))) Tryz.func73
def S_140(N:Nat):FnSpec:=⟨.pair TBlock (.pair (.slice TViolation) .nil),(.pair .bool .nil),[false],F_140 N,false⟩
theorem Z_140(N:Nat):SN 47 (S_140 N):=snd ⟨[((73,[]),S_139 N)],[],[],[],[]⟩ ⟨[(0,⟨[.tmp 5 tI],rG 6 57,[],[],[]⟩)],[],[],[]⟩ N ((q8 (Z_139 N) (cb Tryz.func73) q11)) Tryz.func47
def S_141(N:Nat):FnSpec:=⟨.pair TBlock (.pair (.slice TViolation) (.pair (.slice TWaiver) tN)),tN,[false],F_141 N,false⟩
theorem K_141:CB 19:=cb Tryz.func19
theorem Z_141(N:Nat):SN 19 (S_141 N):=snd ⟨[((36,[]),S_35 N),((39,[]),S_45 N),((47,[]),S_140 N),((48,[]),S_43 N)],[],[],[],[]⟩ ⟨[],[],[],[]⟩ N ((q8 (Z_35 N) K_35 (q8 (Z_45 N) K_45 (q8 (Z_140 N) (cb Tryz.func47) (q8 (Z_43 N) K_43 q11))))) Tryz.func19
def S_142(N:Nat):FnSpec:=⟨tN,(.pair (.slice .bool) .nil),[true],F_142 N,false⟩
theorem K_142:CB 21:=cb Tryz.func21
theorem Z_142(N:Nat):SN 21 (S_142 N):=snd ⟨[],[],[],[],[]⟩ ⟨[(0,⟨[.tmp 4 tI,.row 0 .bool],rG 5 9,[],[],[]⟩)],[],[],[]⟩ N q11 Tryz.func21
def S_143(N:Nat):FnSpec:=⟨.pair TWaiver (.pair TViolation tN),(.pair .bool .nil),[false],F_143 N,false⟩
theorem Z_143(N:Nat):SN 49 (S_143 N):=snd ⟨[],[],[],[],[]⟩ ⟨[],[],[],[]⟩ N q11 Tryz.func49
def S_144(N:Nat):FnSpec:=⟨.pair (.slice TViolation) (.pair (.slice TWaiver) (.pair (.slice .bool) tN)),(.pair (.slice TViolation) .nil),[true],F_144 N,false⟩
theorem K_144:CB 20:=cb Tryz.func20
theorem Z_144(N:Nat):SN 20 (S_144 N):=snd ⟨[((49,[]),S_143 N)],[],[],[],[]⟩ ⟨[(0,⟨[.tmp 10 tI,.row 0 TViolation],rG 11 43,[],[],[]⟩),(2,⟨[.tmp 11 .bool,.tmp 12 tI],[],[],[],[]⟩)],[],[],[]⟩ N ((q8 (Z_143 N) (cb Tryz.func49) q11)) Tryz.func20
def S_145(N:Nat):FnSpec:=⟨.pair TBlock (.pair (.slice TViolation) (.pair (.slice TWaiver) tN)),(.pair (.slice TViolation) tN),[true,false],F_145 N,false⟩
theorem K_145:CB 8:=cb Tryz.func8
theorem Z_145(N:Nat):SN 8 (S_145 N):=snd ⟨[((19,[]),S_141 N),((20,[]),S_144 N),((21,[]),S_142 N)],[],[],[],[]⟩ ⟨[],[],[(8,TViolation)],[]⟩ N ((q8 (Z_141 N) K_141 (q8 (Z_144 N) K_144 (q8 (Z_142 N) K_142 q11)))) Tryz.func8
def S_146(N:Nat):FnSpec:=⟨.pair TBlock (.pair (.slice TWaiver) tN),(.pair (.slice tI) tN),[true,false],F_146 N,false⟩
theorem Z_146(N:Nat):SN 9 (S_146 N):=snd ⟨[((17,[]),S_128 N)],[],[],[],[]⟩ ⟨[(0,⟨[.tmp 21 tI,.row 1 tI],[10,11]++rG 22 13,[(9,tI)],[],[]⟩)],[],[(6,tI)],[]⟩ N ((q8 (Z_128 N) K_128 q11)) Tryz.func9
def S_147(N:Nat):FnSpec:=⟨.pair TBlock (.pair TWaiver (.pair TViolation tN)),(.pair .bool .nil),[false],F_147 N,false⟩
theorem Z_147(N:Nat):SN 10 (S_147 N):=snd ⟨[((22,[]),S_102 N),((23,[]),S_123 N),((24,[]),S_111 N),((25,[]),S_124 N),((26,[]),S_121 N),((27,[]),S_130 N)],[],[],[],[]⟩ ⟨[],[],[],[]⟩ N ((q8 (Z_102 N) K_102 (q8 (Z_123 N) K_123 (q8 (Z_111 N) K_111 (q8 (Z_124 N) K_124 (q8 (Z_121 N) K_121 (q8 (Z_130 N) K_130 q11))))))) Tryz.func10
def S_148(N:Nat):FnSpec:=⟨.pair (.slice tI) tN,(.pair .bool .nil),[false],F_148 N,false⟩
theorem K_148:CB 11:=cb Tryz.func11
theorem Z_148(N:Nat):SN 11 (S_148 N):=snd ⟨[],[],[],[],[]⟩ ⟨[(0,⟨[.tmp 5 tI],rG 6 12,[],[],[]⟩)],[],[],[]⟩ N q11 Tryz.func11
def S_149(N:Nat):FnSpec:=⟨.pair (.slice (.int .u8)) .nil,(.pair .bool .nil),[false],F_149 N,false⟩
theorem Z_149(N:Nat):SN 3 (S_149 N):=snd ⟨[((5,[]),S_0 N),((6,[]),S_48 N),((7,[]),S_138 N),((8,[]),S_145 N),((9,[]),S_146 N),((10,[]),S_147 N),((11,[]),S_148 N)],[],[],[],[]⟩ ⟨[(0,⟨[.tmp 4 (.slice TViolation),.tmp 5 (.slice TWaiver),.tmp 6 tI,.tmp 14 tI,.var 2 [some (.slice TCell),some (.slice TInstance),some (.slice .str),some (.slice TPort),some (.slice TWire)],.tmp 13 tI],[15,16,17]++rG 76 71,[],[],[]⟩),(2,⟨[.tmp 4 (.slice TViolation),.tmp 5 (.slice TWaiver),.tmp 6 tI,.tmp 15 .bool,.tmp 16 tI,.var 2 [some (.slice TCell),some (.slice TInstance),some (.slice .str),some (.slice TPort),some (.slice TWire)]],[],[],[],[]⟩)],[(20,[(4,none),(5,none)]),(1000000,[(4,none),(5,none)])],[],[]⟩ N ((q8 (Z_0 N) K_0 (q8 (Z_48 N) (cb Tryz.func6) (q8 (Z_138 N) (cb Tryz.func7) (q8 (Z_145 N) K_145 (q8 (Z_146 N) (cb Tryz.func9) (q8 (Z_147 N) (cb Tryz.func10) (q8 (Z_148 N) K_148 q11)))))))) Tryz.func3
def S_150(N:Nat):FnSpec:=⟨.pair (.slice (.int .u8)) .nil,(.pair TBlock (.pair (.slice TViolation) (.pair (.slice TWaiver) tN))),[false,false,false,false,false,true,true,false],F_150 N,false⟩
theorem Z_150(N:Nat):SN 12 (S_150 N):=snd ⟨[((16,[]),S_46 N)],[],[],[],[]⟩ ⟨[],[],[],[]⟩ N ((q8 (Z_46 N) K_46 q11)) Tryz.func12
def S_151(N:Nat):FnSpec:=⟨.pair (.slice TWaiver) .nil,(.pair (.slice TWaiver) .nil),[true],F_151 N,false⟩
def H_151:Hints:=⟨[],[],[(2,TWaiver)],[]⟩
noncomputable def C_151(N:Nat):Ctx:=⟨[],[],[],[],[]⟩
theorem E_151(N:Nat)(xs:List (Ty.den TWaiver)):pevFnW Tryz.prog (C_151 N) N H_151 (S_151 N) Tryz.f28 [.one (.sln TWaiver xs)]=F_151 N (xs,()):=by kernel_rfl
theorem E0_151(N:Nat):pevFnW Tryz.prog (C_151 N) N H_151 (S_151 N) Tryz.f28 [.one (.slz TWaiver)]=F_151 N ([],()):=by kernel_rfl
theorem Z_151(N:Nat):Sound Tryz.prog PRE 28 (S_151 N):=q101 (C:=C_151 N) (H:=H_151) (N:=N) (e:=TWaiver) (rs:=(.pair (.slice TWaiver) .nil)) (own:=[true]) (F:=F_151 N) (q301 q300 (by kernel_rfl) q11) Tryz.func28 (fun xs r h=>(E_151 N xs).trans h) (fun r h=>(E0_151 N).trans h)
def S_152(N:Nat):FnSpec:=⟨.pair TWaiver (.pair (.ptr TWaiver) .nil),(.pair .bool .nil),[false],F_152 N,false⟩
theorem K_152:CB 30:=cb Tryz.func30
theorem Z_152(N:Nat):SN 30 (S_152 N):=snd ⟨[],[],[],[],[]⟩ ⟨[],[],[],[]⟩ N q11 Tryz.func30
def S_153(N:Nat):FnSpec:=⟨.pair (.slice TWaiver) (.pair (.clo 30 (.pair (.ptr TWaiver) .nil)) .nil),tN,[false],F_153 N,false⟩
theorem Z_153(N:Nat):SN 60 (S_153 N):=snd ⟨[((30,[]),S_152 N)],[],[],[],[]⟩ ⟨[(0,⟨[.tmp 8 tI],[5]++rG 9 8++[18],[],[],[]⟩)],[],[],[]⟩ N ((q8 (Z_152 N) K_152 q11)) Tryz.func60
def S_154(N:Nat):FnSpec:=⟨.pair (.slice TViolation) (.pair (.slice TViolation) .nil),(.pair .bool .nil),[false],F_154 N,false⟩
theorem Z_154(N:Nat):SN 31 (S_154 N):=snd ⟨[],[],[],[],[]⟩ ⟨[(0,⟨[.tmp 13 tI],[5]++rG 14 12,[],[],[]⟩)],[],[],[]⟩ N q11 Tryz.func31
def S_155(N:Nat):FnSpec:=⟨.pair TBlock (.pair (.slice TViolation) (.pair (.slice TWaiver) tN)),(.pair (.slice tI) tN),[true,false],F_155 N,false⟩
theorem KI_29:CB 29:=cb Tryz.func29
noncomputable def I_156:InF:=⟨29,Tryz.f29,⟨[(0,⟨[.tmp 5 tI,.tmp 6 tI,.row 5 TWaiver],[7]++rG 16 20,[],[],[]⟩)],[],[],[]⟩,[],false⟩
theorem Z_155(N:Nat):SN 13 (S_155 N):=snd ⟨[((17,[]),S_128 N),((18,[]),S_136 N),((28,[]),S_151 N),((30,[]),S_152 N),((31,[]),S_154 N),((60,[30]),S_153 N)],[],[I_156],[],[]⟩ ⟨[(0,⟨[.tmp 11 (.slice TWaiver),.tmp 33 tI,.row 3 tI],[14,15,16]++rG 34 20,[(13,tI)],[],[]⟩)],[(10,[(15,some TWaiver)]),(11,[(16,none)]),(14,[(11,none)]),(1000000,[(11,none)])],[(8,tI)],[]⟩ N ((q8 (Z_128 N) K_128 (q8 (Z_136 N) K_136 (q8 (Z_151 N) (cb Tryz.func28) (q8 (Z_152 N) K_152 (q8 (Z_154 N) (cb Tryz.func31) (q8 (Z_153 N) (cb Tryz.func60) q11))))))) Tryz.func13 (hi:=(q441 Tryz.func29 KI_29 q538))
def S_157(N:Nat):FnSpec:=⟨.pair TBlock (.pair (.slice TViolation) (.pair (.slice TWaiver) tN)),(.pair (.slice tI) tN),[true,false],F_157 N,false⟩
theorem Z_157(N:Nat):SN 14 (S_157 N):=snd ⟨[((19,[]),S_141 N),((20,[]),S_144 N),((21,[]),S_142 N)],[],[],[],[]⟩ ⟨[(0,⟨[.tmp 14 tI,.row 1 .bool,.row 3 tI],rG 32 25,[],[],[]⟩)],[],[(8,tI)],[]⟩ N ((q8 (Z_141 N) K_141 (q8 (Z_144 N) K_144 (q8 (Z_142 N) K_142 q11)))) Tryz.func14
def S_158(N:Nat):FnSpec:=⟨.pair TViolation (.pair (.ptr TWaiver) (.pair (.ptr tI) .nil)),(.pair .bool .nil),[false],F_158 N,false⟩
theorem Z_158(N:Nat):SN 33 (S_158 N):=snd ⟨[((27,[]),S_130 N)],[],[],[],[]⟩ ⟨[],[],[],[]⟩ N ((q8 (Z_130 N) K_130 q11)) Tryz.func33
def S_159(N:Nat):FnSpec:=⟨.pair (.slice TViolation) (.pair (.clo 33 (.pair (.ptr TWaiver) (.pair (.ptr tI) .nil))) .nil),tN,[false],F_159 N,false⟩
theorem Z_159(N:Nat):SN 61 (S_159 N):=snd ⟨[((33,[]),S_158 N)],[],[],[],[]⟩ ⟨[(0,⟨[.tmp 8 tI],[5]++rG 9 8++[18],[],[],[]⟩)],[],[],[]⟩ N ((q8 (Z_158 N) (cb Tryz.func33) q11)) Tryz.func61
def S_160(N:Nat):FnSpec:=⟨.pair (.slice TViolation) (.pair (.clo 33 (.pair (.ptr TWaiver) (.pair (.ptr tI) .nil))) .nil),(.pair .bool .nil),[false],F_160 N,false⟩
theorem Z_160(N:Nat):SN 32 (S_160 N):=snd ⟨[((61,[33]),S_159 N)],[],[],[],[]⟩ ⟨[],[],[],[]⟩ N ((q8 (Z_159 N) (cb Tryz.func61) q11)) Tryz.func32
def S_161(N:Nat):FnSpec:=⟨.pair TBlock (.pair (.slice TViolation) (.pair (.slice TWaiver) tN)),(.pair (.slice tI) tN),[true,false],F_161 N,false⟩
theorem Z_161(N:Nat):SN 15 (S_161 N):=snd ⟨[((17,[]),S_128 N),((32,[33]),S_160 N)],[],[],[],[]⟩ ⟨[(0,⟨[.tmp 24 tI,.row 2 tI],[12,13]++rG 25 19,[(11,tI)],[],[]⟩)],[(8,[(13,some TWaiver)]),(1000000,[(7,some tI)])],[(8,tI)],[]⟩ N ((q8 (Z_128 N) K_128 (q8 (Z_160 N) (cb Tryz.func32) q11))) Tryz.func15
def S_162(N:Nat):FnSpec:=⟨.pair (.slice (.int .u8)) .nil,(.pair .bool .nil),[false],F_162 N,false⟩
theorem Z_162(N:Nat):SN 4 (S_162 N):=snd ⟨[((5,[]),S_0 N),((8,[]),S_145 N),((11,[]),S_148 N),((12,[]),S_150 N),((13,[]),S_155 N),((14,[]),S_157 N),((15,[]),S_161 N)],[],[],[],[]⟩ ⟨[(0,⟨[.tmp 16 tI,.row 10 TWaiver],rG 89 18,[],[],[]⟩),(2,⟨[.tmp 19 tI],rG 128 13,[],[],[]⟩),(4,⟨[.tmp 20 tI],[21,22,23]++rG 141 29,[],[],[]⟩)],[(1000004,[(15,none)])],[],[]⟩ N ((q8 (Z_0 N) K_0 (q8 (Z_145 N) K_145 (q8 (Z_148 N) K_148 (q8 (Z_150 N) (cb Tryz.func12) (q8 (Z_155 N) (cb Tryz.func13) (q8 (Z_157 N) (cb Tryz.func14) (q8 (Z_161 N) (cb Tryz.func15) q11)))))))) Tryz.func4
end Go.Proofs.YtaljimgiglekhaaGreatDoor
