/- FnExactCommonBeginning,the plain law. No program in sight. -/
import Derived.Test.YtjimamifmpbhgaaGreatDoorPgZ
import Derived.Test.YtjimamifmpbhgaaGreatDoorPgV
import Derived.Test.YtjimamifmpbhgaaGreatDoorPwHelp
import Derived.Test.YtjimamifmpbhgaaGreatDoorPwHelpM
namespace Go.Proofs.YtjimamifmpbhgaaGreatDoor
set_option linter.unusedSimpArgs false
set_option linter.unusedVariables false
set_option linter.unusedSectionVars false
theorem begin_len {N:Nat} {j:DJob} {p q:DPath} (hp:p.2.1.length<4000000) (w:Int×Option (List Int×DTiming)):(beginR N j p q w).1.length<4000000:=by
 obtain ⟨k,w⟩:=w
 cases w with
 | none=>simp [beginR]
 | some w=>
  unfold beginR
  by_cases e:p.1=q.1
  ·rw [dec_of e]
   simp only [cond_true,List.length_take]
   omega
  ·rw [q18 e]; simp
theorem law (x:(Ty.pair TJob (.pair TPath (.pair TPath .nil))).den) (hx:(Ty.pair TJob (.pair TPath (.pair TPath .nil))).fits x):∃ N,F_277 N x=some (true,()):=by
 obtain ⟨j,p,q,u⟩:=x
 obtain ⟨N,hM⟩:∃ N:Nat,1000000000000≤N:=⟨1000000000000,Nat.le_refl _⟩
 have hN:4000000≤N:=by omega
 refine ⟨N,Ret.eq ?_⟩
 unfold F_277
 dsimp only
 refine Ret.bind (sc_Job hN j 1048576 (by omega) hx.1 ()) ?_
 rintro ⟨room,v⟩ ⟨hr,hs⟩
 dsimp only at hr hs ⊢
 refine Ret.ifd ?_ ?_ <;> intro h0
 ·exact Ret.ret rfl
 obtain ⟨hj,hc⟩:SmallJ j∧_:=hs (by omega)
 refine Ret.bind (q696 hN p room (by omega) hx.2.1 _) ?_
 rintro ⟨room2,v2⟩ ⟨hr2,hs2⟩
 dsimp only at hr2 hs2 ⊢
 refine Ret.ifd ?_ ?_ <;> intro h0'
 ·exact Ret.ret rfl
 obtain ⟨hp,hc2⟩:p.2.1.length<4000000∧_:=hs2 (by omega)
 refine Ret.bind (q696 hN q room2 (by omega) hx.2.2.1 _) ?_
 rintro ⟨room3,v3⟩ ⟨hr3,hs3⟩
 dsimp only at hr3 hs3 ⊢
 refine Ret.ifd ?_ ?_ <;> intro h0''
 ·exact Ret.ret rfl
 obtain ⟨hq,hc3⟩:q.2.1.length<4000000∧_:=hs3 (by omega)
 have c1:=ce_Job j
 have c2:=q700 p
 have c3:=q700 q
 have hlen:(beginR N j p q (pairW N j p q)).1.length<4000000:=begin_len hp _
 refine Ret.call (to_Job hN j hj ()) (Ret.call (q185 hN p hp ()) (Ret.call (q185 hN q hq u) ?_))
 refine Ret.call (q217 hM hj hp hq _) ?_
 refine Ret.call (to_Job hN j hj ()) (Ret.call (q185 hN p hp ()) (Ret.call (q185 hN q hq u) ?_))
 refine Ret.call (q114 hM hj hp hq _) ?_
 generalize hR:beginR N j p q (pairW N j p q)=A at hlen
 refine Ret.call (q50 hN _ _ hlen _) ?_
 dsimp only
 rw [dec_of rfl]
 simp only [beq_self_eq_true,decide_true,Bool.not_true,cond_false]
 refine Ret.call (to_Job hN j hj ()) (Ret.call (eq_Job hN j j hj ()) ?_)
 dsimp only
 rw [dec_of rfl]
 refine Ret.bif (fun h=>by cases h) fun _=>?_
 refine Ret.call (q185 hN p hp ()) (Ret.call (q708 hN p p hp ()) ?_)
 dsimp only
 rw [dec_of rfl]
 refine Ret.bif (fun h=>by cases h) fun _=>?_
 refine Ret.call (q185 hN q hq u) (Ret.call (q708 hN q q hq ()) ?_)
 dsimp only
 rw [dec_of rfl]
 refine Ret.bif (fun h=>by cases h) fun _=>?_
 refine Ret.call (mk_Job hM j hj 1 (by omega) (by omega)) (Ret.call (q704 hM p hp _ (by omega) (by omega)) (Ret.call (q704 hM q hq _ (by omega) (by omega)) (Ret.mustN (by omega) ?_)))
 refine Ret.call (q50 hN _ _ hlen _) ?_
 dsimp only
 rw [dec_of rfl]
 refine Ret.bif (fun h=>by cases h) fun _=>?_
 refine Ret.markInts hlen hN fun row hrl hrow=>?_
 dsimp only
 refine Ret.call (q538 (n:=1+(A.1.length:Int)) (by omega) hN hrow (by omega) _) ?_
 dsimp only
 refine Ret.mustN (by omega) (Ret.mustNN rfl ?_)
 refine Ret.call (to_Job hN j hj ()) (Ret.call (q185 hN p hp ()) (Ret.call (q185 hN q hq u) ?_))
 refine Ret.call (q114 hM hj hp hq _) ?_
 rw [hR]
 refine Ret.call (q50 hN _ _ hlen _) ?_
 dsimp only
 rw [dec_of rfl]
 simp only [beq_self_eq_true,decide_true,Bool.not_true,cond_false]
 refine Ret.call (q538 (n:=1+(A.1.length:Int)) (by omega) hN hrow (by omega) _) ?_
 dsimp only
 exact Ret.mustN (by omega) (Ret.mustNN rfl (Ret.ret rfl))
end Go.Proofs.YtjimamifmpbhgaaGreatDoor
