/- The functions' contracts. Printed by my dec.py. No condition of its own. -/
import Derived.Test.YtcmhpcoiomdekaaGreatDoorPvD2
namespace Go.Proofs.YtcmhpcoiomdekaaGreatDoor
open Go.RowKit
set_option maxRecDepth 100000
set_option linter.unusedVariables false
noncomputable section
variable (N:Nat)
def c202:Ct:=ct ⟨(.pair TJob (.pair tI tN)),(.pair tI tN),[false,false],F_234 N,false⟩ [] ⟨[(0,⟨[.tmp 12 tI,.tmp 13 tI],[14]++rG 44 35,[],[],[]⟩),(2,⟨[.tmp 12 tI,.tmp 14 tI],[],[],[],[]⟩)],[],[],[]⟩ [c195 N,c199 N,c201 N] N Tryz.func25
def S_41(N:Nat):FnSpec:=⟨.pair TJob (.pair tI tN),(.pair tI tN),[false,false],F_41 N,false⟩
theorem Z_41(N:Nat):SN 26 (S_41 N):=snd ⟨es [c183 N],[14],[],[],[]⟩ ⟨[],[],[],[]⟩ N (ce _) Tryz.func26
def c203:Ct:=⟨(26,[]),S_41 N,Z_41 N,(cb Tryz.func26)⟩
def S_42(N:Nat):FnSpec:=⟨.pair TJob (.pair tI tN),(.pair tI tN),[false,false],F_42 N,false⟩
def I_43:InF:=⟨69,Tryz.f69,⟨[(1,⟨[.tmp 60 tI,.row 9 tI],[15]++rG 61 14,[(13,tI)],[],[]⟩),
 (3,⟨[.tmp 77 tI,.var 1 [some tI]],[17,18,19,20]++rG 78 36,[],[],[]⟩),
 (5,⟨[.tmp 89 tI,.var 1 [some tI]],[],[],[],[]⟩)],[],[],[]⟩,[],false⟩
def I_44:InF:=⟨74,Tryz.f74,⟨[],[],[],[]⟩,[],false⟩
theorem KI_75:CB 75:=cb Tryz.func75
def I_45:InF:=⟨75,Tryz.f75,⟨[],[],[],[]⟩,[],false⟩
theorem Z_42(N:Nat):SN 27 (S_42 N):=snd ⟨es [c182 N,c187 N,c189 N,c186 N,c181 N,c184 N,c185 N,c79 N,c133 N],[],[I_43,I_44,I_45],[],[]⟩ ⟨[],[],[],[]⟩ N (ce _) Tryz.func27 (hi:=(q101 Tryz.func69 KI_69 (q101 Tryz.func74 KI_74 (q101 Tryz.func75 KI_75 q323))))
def c204:Ct:=⟨(27,[]),S_42 N,Z_42 N,(cb Tryz.func27)⟩
def c205:Ct:=ctB tN (.pair .bool .nil) (F_235 N) [] N Tryz.func46
def c206:Ct:=ctA (.pair TPath (.pair TPath .nil)) (.pair .bool .nil) (F_236 N) ⟨[(0,⟨[.tmp 5 tI],rG 16 25,[],[],[]⟩)],[],[],[]⟩ [] N Tryz.func268
def c207:Ct:=ctB (.pair TPath (.pair TPath tN)) (.pair .bool .nil) (F_237 N) [c206 N] N Tryz.func214
def c208:Ct:=ctA (.pair (.slice TPath) tN) (.pair (.slice TPath) .nil) (F_238 N) ⟨[(0,⟨[.tmp 5 (.slice TPath),.tmp 6 tI],[7,8]++rG 10 42,[],[],[]⟩),(2,⟨[.tmp 7 tI],[],[],[],[]⟩)],[(4,[(5,none)]),(1000000,[(5,none)])],[],[]⟩ [c207 N] N Tryz.func149
def c209:Ct:=ctA (.pair (.ptr Tl20Work) (.pair tI tN)) (.pair (.slice TPath) .nil) (F_239 N) ⟨[(0,⟨[.tmp 8 tI,.row 0 TPath],rG 12 23,[],[],[]⟩)],[(6,[(7,none)])],[],[]⟩ [c194 N N,c198 N,c208 N] N Tryz.func79
def c210:Ct:=ct ⟨(.pair TJob (.pair tI (.pair tI tN))),(.pair (.slice TPath) tN),[false,false],F_240 N,false⟩ [] hnn [c205 N,c191 N,c8 N,c193 N,c209 N] N Tryz.func28
def c211:Ct:=ctB (.pair (.ptr Tview) tN) (.pair .bool .nil) (F_241 N) [c65 N,c141 N] N Tryz.func269
def c212:Ct:=ctA (.pair (.ptr Tview) (.pair (.slice tI) .nil)) (.pair .bool .nil) (F_242 N) ⟨[(0,⟨[.tmp 9 tI],[5,6]++rG 10 36,[],[],[]⟩)],[],[],[]⟩ [c211 N] N Tryz.func215
def c213:Ct:=ctB (.pair tI (.pair (.ptr (.ptr Twork)) .nil)) (.pair .bool .nil) (F_243 N) [] N Tryz.func216
def c214:Ct:=ct ⟨(.pair (.slice tI) (.pair (.clo 216 (.pair (.ptr (.ptr Twork)) .nil)) .nil)),tN,[false],F_244 N,false⟩ [216] ⟨[(0,⟨[.tmp 8 tI],[5]++rG 9 8++[18],[],[],[]⟩)],[],[],[]⟩ [c213 N] N Tryz.func267
def c215:Ct:=ct ⟨(.pair (.slice tI) (.pair (.clo 216 (.pair (.ptr (.ptr Twork)) .nil)) .nil)),(.pair .bool .nil),[false],F_245 N,false⟩ [216] hnn [c214 N] N Tryz.func211
def c216:Ct:=ctA (.pair (.ptr Twork) (.pair tI (.pair (.slice tI) .nil))) (.pair .bool .nil) (F_246 N) ⟨[],[(6,[(3,some (.ptr Twork))])],[],[]⟩ [c157 N,c215 N,c212 N] N Tryz.func150
def c217:Ct:=ct ⟨(.pair TJob (.pair TPath (.pair TPath .nil))),(.pair (.ptr Twork) tN),[false,false],F_247 N,false⟩ [] hnn [c181 N,c216 N] N Tryz.func80
def c218:Ct:=ct ⟨(.pair TJob (.pair TPath (.pair TPath .nil))),(.pair tI tN),[false,false],F_248 N,false⟩ [] hnn [c217 N,c187 N] N Tryz.func29
def c219:Ct:=ct ⟨(.pair TJob (.pair TPath (.pair TPath .nil))),(.pair tI tN),[false,false],F_249 N,false⟩ [] hnn [c217 N,c189 N,c186 N] N Tryz.func30
def S_46(N:Nat):FnSpec:=⟨.pair (.slice (.int .u8)) .nil,(.pair .bool .nil),[false],F_46 N,false⟩
theorem Z_46(N:Nat):SN 5 (S_46 N):=snd ⟨es [c0 N,c64 N,c190 N,c202 N,c203 N,c204 N,c210 N,c218 N,c219 N],[],[],[],[]⟩ ⟨[],[],[],[]⟩ N (ce _) Tryz.func5
end
end Go.Proofs.YtcmhpcoiomdekaaGreatDoor
