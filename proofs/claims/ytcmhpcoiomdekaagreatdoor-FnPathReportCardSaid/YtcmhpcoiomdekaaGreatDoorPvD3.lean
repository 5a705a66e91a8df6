/- The functions' contracts. Printed by my dec.py. No condition of its own. -/
import Derived.Test.YtcmhpcoiomdekaaGreatDoorPvD2
namespace Go.Proofs.YtcmhpcoiomdekaaGreatDoor
open Go.RowKit
set_option maxRecDepth 100000
set_option linter.unusedVariables false
noncomputable section
variable (N:Nat)
def c226:CtP:=ctA (.pair (.slice tI) (.pair (.slice tI) .nil)) (.pair .bool .nil) (F_248 N) ⟨[(0,⟨[.tmp 5 tI],rG 11 15,[],[],[]⟩)],[],[],[]⟩ [] N Tryz.func37
def S_40(N:Nat):FnSpec:=⟨.pair (.slice (.int .u8)) .nil,(.pair .bool .nil),[false],F_40 N,false⟩
theorem Z_40(N:Nat):SN 6 (S_40 N):=snd ⟨esP [c0 N,c65 N,c201 N,c215 N,c224 N,c225 N,c213 N N,c226 N],[],[],[],[]⟩ ⟨[],[],[],[]⟩ N (ce _) Tryz.func6
end
end Go.Proofs.YtcmhpcoiomdekaaGreatDoor
