/- FnExactPairCredit,the plain law. No program in sight. -/
import Derived.Test.YtjimamifmpbhgaaGreatDoorPgZ
import Derived.Test.YtjimamifmpbhgaaGreatDoorPwHelp
import Derived.Test.YtjimamifmpbhgaaGreatDoorPwHelpM
namespace Go.Proofs.YtjimamifmpbhgaaGreatDoor
set_option linter.unusedSimpArgs false
set_option linter.unusedVariables false
set_option linter.unusedSectionVars false
theorem law (x:(Ty.pair TJob (.pair TPath (.pair TPath .nil))).den) (hx:(Ty.pair TJob (.pair TPath (.pair TPath .nil))).fits x):∃ N,F_281 N x=some (true,()):=by
 obtain ⟨j,p,q,u⟩:=x
 obtain ⟨N,hM⟩:∃ N:Nat,1000000000000≤N:=⟨1000000000000,Nat.le_refl _⟩
 have hN:4000000≤N:=by omega
 refine ⟨N,Ret.eq ?_⟩
 unfold F_281
 dsimp only
 refine Ret.bind (sz_Job hN j 1048576 (by omega) hx.1 ()) ?_
 rintro ⟨room,v⟩ ⟨hr,hs⟩
 dsimp only at hr hs ⊢
 refine Ret.ifd ?_ ?_ <;> intro h0
 ·exact Ret.ret rfl
 have hj:SmallJ j:=hs (by omega)
 refine Ret.bind (sz_Path hN p room (by omega) hx.2.1 _) ?_
 rintro ⟨room2,v2⟩ ⟨hr2,hs2⟩
 dsimp only at hr2 hs2 ⊢
 refine Ret.ifd ?_ ?_ <;> intro h0'
 ·exact Ret.ret rfl
 have hp:p.2.1.length < 4000000:=hs2 (by omega)
 refine Ret.bind (sz_Path hN q room2 (by omega) hx.2.2.1 _) ?_
 rintro ⟨room3,v3⟩ ⟨hr3,hs3⟩
 dsimp only at hr3 hs3 ⊢
 refine Ret.ifd ?_ ?_ <;> intro h0''
 ·exact Ret.ret rfl
 have hq:q.2.1.length < 4000000:=hs3 (by omega)
 refine Ret.call (to_Job hN j hj ()) (Ret.call (to_Path hN p hp ()) (Ret.call (to_Path hN q hq u) ?_))
 refine Ret.call (spec_PairCredit hM hj hp hq _) ?_
 refine Ret.call (to_Job hN j hj ()) (Ret.call (to_Path hN p hp ()) (Ret.call (to_Path hN q hq u) ?_))
 refine Ret.call (impl_PairCredit hM hj hp hq _) ?_
 simp only [decide_true,Bool.not_true,cond_false]
 refine Ret.call (to_Job hN j hj ()) (Ret.call (eq_Job hN j j hj ()) ?_)
 dsimp only
 rw [dec_of rfl]
 refine Ret.bif (fun h=>by cases h) fun _=>Ret.call (to_Path hN p hp ()) (Ret.call (eq_Path hN p p hp ()) ?_)
 dsimp only
 rw [dec_of rfl]
 refine Ret.bif (fun h=>by cases h) fun _=>Ret.call (to_Path hN q hq u) (Ret.call (eq_Path hN q q hq ()) ?_)
 dsimp only
 rw [dec_of rfl]
 exact Ret.ret rfl
end Go.Proofs.YtjimamifmpbhgaaGreatDoor
