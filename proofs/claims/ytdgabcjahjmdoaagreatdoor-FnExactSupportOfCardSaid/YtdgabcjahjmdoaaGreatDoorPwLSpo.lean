/- FnExactSupportOf,the plain law. No program in sight. -/
import Derived.Test.YtdgabcjahjmdoaaGreatDoorPgX
import Derived.Test.YtdgabcjahjmdoaaGreatDoorPgV
import Derived.Test.YtdgabcjahjmdoaaGreatDoorPwHelp
import Derived.Test.YtdgabcjahjmdoaaGreatDoorPwHelpM
namespace Go.Proofs.YtdgabcjahjmdoaaGreatDoor
set_option linter.unusedSimpArgs false
set_option linter.unusedVariables false
set_option linter.unusedSectionVars false
theorem law(x:(Ty.pair TBlock (.pair (.int .i64) .nil)).den)(hx:(Ty.pair TBlock (.pair (.int .i64) .nil)).fits x):∃ N,F_165 N x=some (true,()):=by
 obtain ⟨b,k,u⟩:=x;obtain ⟨N,hM⟩:∃ N:Nat,1000000000000<=N:=⟨1000000000000,Nat.le_refl _⟩;have hN:4000000<=N:=by omega
 refine ⟨N,Ret.eq ?_⟩;unfold F_165;dsimp only;refine Ret.bind (q729 hN b 1048576 (by omega) hx.1 ()) ?_;rintro ⟨room,v⟩ ⟨hr,hs⟩;dsimp only at hr hs |-;refine rg ?_ ?_ <;> intro h0
 .exact ra rfl
 obtain ⟨hb,hc⟩:SmallB b/\_:=hs (by omega);have hce:=q721 b;refine rb (q339 hN b hb _) ?_;refine rb (q388 hN hb k _) ?_;refine rb (q339 hN b hb _) ?_;refine rb (q243 hN hb k _) ?_;have hlen:(supAns b k).1.length<4000000:=q637 hN hb k;refine rb (q63 hN _ _ hlen _) ?_;dsimp only;rw[dec_of rfl];refine rx rfl ?_;refine rb (q339 hN b hb _) ?_;refine rb (q739 hN b b hb _) ?_;dsimp only;rw[dec_of rfl];refine rb (q747 hM b hb 1 (by omega) (by omega)) ?_;refine rd (by omega) ?_;refine rb (q63 hN _ _ hlen _) ?_;dsimp only;rw[dec_of rfl];refine rx rfl ?_;refine Ret.markInts hlen hN fun row hrl hrow=>?_;dsimp only;refine rb (q498 (n:=1+((supAns b k).1.length:Int)) (by omega) hN hrow (by omega) _) ?_;dsimp only;refine rd (by omega) (rx rfl ?_);refine rb (q339 hN b hb _) ?_;refine rb (q243 hN hb k _) ?_;refine rb (q63 hN _ _ hlen _) ?_;dsimp only;rw[dec_of rfl];refine rx rfl ?_;refine rb (q498 (n:=1+((supAns b k).1.length:Int)) (by omega) hN hrow (by omega) _) ?_;dsimp only;exact rd (by omega) (rx rfl (ra rfl))
end Go.Proofs.YtdgabcjahjmdoaaGreatDoor
