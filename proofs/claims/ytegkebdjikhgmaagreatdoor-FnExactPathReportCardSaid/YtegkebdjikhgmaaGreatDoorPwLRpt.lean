/- FnExactPathReport,the plain law. No program in sight. -/
import Derived.Test.YtegkebdjikhgmaaGreatDoorPgV
import Derived.Test.YtegkebdjikhgmaaGreatDoorPwHelp
import Derived.Test.YtegkebdjikhgmaaGreatDoorPwHelpM
namespace Go.Proofs.YtegkebdjikhgmaaGreatDoor
set_option linter.unusedSimpArgs false
set_option linter.unusedVariables false
set_option linter.unusedSectionVars false
theorem law (x:(Ty.pair TJob (.pair (.int .i64) (.pair (.slice (.int .i64)) (.pair (.int .i64) .nil)))).den) (hx:(Ty.pair TJob (.pair (.int .i64) (.pair (.slice (.int .i64)) (.pair (.int .i64) .nil)))).fits x):∃ N,F_275 N x=some (true,()):=by
 obtain ⟨j,s,l,m,u⟩:=x
 obtain ⟨N,hM⟩:∃ N:Nat,1000000000000≤N:=⟨1000000000000,Nat.le_refl _⟩
 have hN:4000000≤N:=by omega
 refine ⟨N,Ret.eq ?_⟩
 unfold F_275
 dsimp only
 refine Ret.ifd ?_ ?_ <;> intro h00
 ·exact Ret.ret rfl
 have hl:List.length (α:=Int) l<4000000:=by
  have:¬ ((1048576:Int)<(List.length (α:=Int) l:Int)):=h00
  omega
 refine Ret.bind (sz_Job hN j 1048576 (by omega) hx.1 ()) ?_
 rintro ⟨room,v⟩ ⟨hr,hs⟩
 dsimp only at hr hs ⊢
 refine Ret.ifd ?_ ?_ <;> intro h0
 ·exact Ret.ret rfl
 have hj:SmallJ j:=hs (by omega)
 refine Ret.call (to_Job hN j hj ()) (Ret.call (q56 hN l hl ()) ?_)
 refine Ret.call (q368 hM hj hl m _) ?_
 refine Ret.call (to_Job hN j hj ()) (Ret.call (q56 hN l hl ()) ?_)
 refine Ret.call (q339 hM hj hl m _) ?_
 simp only [decide_true,Bool.not_true,cond_false]
 refine Ret.call (to_Job hN j hj ()) (Ret.call (eq_Job hN j j hj ()) ?_)
 dsimp only
 rw [dec_of rfl]
 refine Ret.bif (fun h=>by cases h) fun _=>Ret.call (q56 hN l hl ()) (Ret.call (q69 hN l l hl ()) ?_)
 dsimp only
 rw [dec_of rfl]
 exact Ret.ret rfl
end Go.Proofs.YtegkebdjikhgmaaGreatDoor
