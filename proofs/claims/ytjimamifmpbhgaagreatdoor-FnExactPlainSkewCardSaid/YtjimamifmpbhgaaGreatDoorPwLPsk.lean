/- FnExactPlainSkew,the plain law. No program in sight. -/
import Derived.Test.YtjimamifmpbhgaaGreatDoorPgZ
import Derived.Test.YtjimamifmpbhgaaGreatDoorPwHelp
import Derived.Test.YtjimamifmpbhgaaGreatDoorPwHelpM
namespace Go.Proofs.YtjimamifmpbhgaaGreatDoor
set_option linter.unusedSimpArgs false
set_option linter.unusedVariables false
set_option linter.unusedSectionVars false
theorem law (x:(Ty.pair TJob (.pair (.int .i64) (.pair (.int .i64) .nil))).den) (hx:(Ty.pair TJob (.pair (.int .i64) (.pair (.int .i64) .nil))).fits x):∃ N,F_248 N x=some (true,()):=by
 obtain ⟨j,a,d,u⟩:=x
 obtain ⟨N,hM⟩:∃ N:Nat,1000000000000≤N:=⟨1000000000000,Nat.le_refl _⟩
 have hN:4000000≤N:=by omega
 refine ⟨N,Ret.eq ?_⟩
 unfold F_248
 dsimp only
 refine Ret.bind (sz_Job hN j 1048576 (by omega) hx.1 ()) ?_
 rintro ⟨room,v⟩ ⟨_,hs⟩
 dsimp only at hs ⊢
 refine Ret.ifd ?_ ?_ <;> intro h0
 ·exact Ret.ret rfl
 have hj:SmallJ j:=hs (by omega)
 refine Ret.call (to_Job hN j hj ()) ?_
 refine Ret.call (spec_PlainSkew hM hj a d u) ?_
 refine Ret.call (to_Job hN j hj ()) ?_
 refine Ret.call (impl_PlainSkew hM hj a d u) ?_
 simp only [decide_true,Bool.not_true,cond_false]
 refine Ret.call (to_Job hN j hj ()) ?_
 refine Ret.call (eq_Job hN j j hj ()) ?_
 dsimp only
 rw [dec_of rfl]
 exact Ret.ret rfl
end Go.Proofs.YtjimamifmpbhgaaGreatDoor
