/- FnExactWorstSkew,the plain law. No program in sight. -/
import Derived.Test.YtegkebdjikhgmaaGreatDoorPgU
import Derived.Test.YtegkebdjikhgmaaGreatDoorPwHelp
import Derived.Test.YtegkebdjikhgmaaGreatDoorPwHelpM
namespace Go.Proofs.YtegkebdjikhgmaaGreatDoor
set_option linter.unusedSimpArgs false
set_option linter.unusedVariables false
set_option linter.unusedSectionVars false
theorem law(x:(Ty.pair TJob (.pair (.int .i64) (.pair (.int .i64) .nil))).den)(hx:(Ty.pair TJob (.pair (.int .i64) (.pair (.int .i64) .nil))).fits x):∃ N,F_274 N x=some (true,()):=by
 obtain ⟨j,a,d,u⟩:=x;obtain ⟨N,hM⟩:∃ N:Nat,1000000000000<=N:=⟨1000000000000,Nat.le_refl _⟩;have hN:4000000<=N:=by omega
 refine ⟨N,Ret.eq ?_⟩;unfold F_274;dsimp only;refine Ret.bind (sz_Job hN j 1048576 (by omega) hx.1 ()) ?_;rintro ⟨room,v⟩ ⟨hr,hs⟩;dsimp only at hr hs |-;refine rg ?_ ?_ <;> intro h0
 .exact rb rfl
 have hj:SmallJ j:=hs (by omega);refine ra (to_Job hN j hj ()) (ra (q391 hM hj a d u) (ra (to_Job hN j hj ()) (ra (q392 hM hj a d u) ?_)));simp only[decide_true,Bool.not_true,cond_false];refine ra (to_Job hN j hj ()) (ra (eq_Job hN j j hj ()) ?_);dsimp only;rw[dec_of rfl];exact rb rfl
end Go.Proofs.YtegkebdjikhgmaaGreatDoor
