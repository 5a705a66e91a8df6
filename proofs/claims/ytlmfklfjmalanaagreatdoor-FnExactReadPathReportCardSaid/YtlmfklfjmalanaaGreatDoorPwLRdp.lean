/- FnExactReadPathReport,the plain law. No program in sight. -/
import Derived.Test.YtlmfklfjmalanaaGreatDoorPgV
import Derived.Test.YtlmfklfjmalanaaGreatDoorPwHelp
import Derived.Test.YtlmfklfjmalanaaGreatDoorPwHelpM
namespace Go.Proofs.YtlmfklfjmalanaaGreatDoor
set_option linter.unusedSimpArgs false
set_option linter.unusedVariables false
set_option linter.unusedSectionVars false
theorem held_path{N:Nat}{row:List Int}{n a b:Int}{u u2:Unit}(h:F_299 N (row,(1:Int),u)=some (n,()))(h0:0<=n):F_300 N ((a,row,b,u2),(1:Int),u)=some (n,()):=by refine Ret.eq ?_;unfold F_300;dsimp only;exact ra h (rd (by dsimp only; omega) (rb rfl))
theorem law(x:(Ty.pair TJob (.pair .str .nil)).den)(hx:(Ty.pair TJob (.pair .str .nil)).fits x):∃ N,F_301 N x=some (true,()):=by
 obtain ⟨j,t,u⟩:=x;obtain ⟨N,hM⟩:∃ N:Nat,1000000000000<=N:=⟨1000000000000,Nat.le_refl _⟩;have hN:4000000<=N:=by omega
 refine ⟨N,Ret.eq ?_⟩;unfold F_301;dsimp only;refine rg ?_ ?_ <;> intro h00
 .exact rb rfl
 refine Ret.bind (sc_Job hN j 1048576 (by omega) hx.1 ()) ?_;rintro ⟨room,v⟩ ⟨hr,hs⟩;dsimp only at hr hs |-;refine rg ?_ ?_ <;> intro h0
 .exact rb rfl
 obtain ⟨hj,hc⟩:SmallJ j/\_:=hs (by omega);have c1:=ce_Job j;obtain ⟨A,hS,hI,hlen⟩:=q805 hM hj t u;refine ra (to_Job hN j hj ()) (ra hS ?_);refine ra (to_Job hN j hj ()) (ra hI ?_);refine ra (q672 hN A.1 A.1 hlen _) ?_;dsimp only;rw[dec_of rfl];simp only[decide_true,Bool.not_true,cond_false];refine ra (to_Job hN j hj ()) (ra (eq_Job hN j j hj ()) ?_);dsimp only;rw[dec_of rfl];refine rn (fun h=>by cases h) fun _=>?_;refine ra (mk_Job hM j hj 1 (by omega) (by omega)) (rd (by omega) ?_);refine ra (q672 hN A.1 A.1 hlen _) ?_;dsimp only;rw[dec_of rfl];simp only[Bool.not_true,cond_false];refine Ret.markInts hlen hN fun row hrl hrow=>?_;dsimp only;refine ra (held_path (n:=1+(A.1.2.1.length:Int)) (q594 (by omega) hN hrow (by omega) _) (by omega)) ?_;dsimp only;refine rd (by omega) (vc rfl ?_);refine ra (to_Job hN j hj ()) (ra hI ?_);refine ra (q672 hN A.1 A.1 hlen _) ?_;dsimp only;rw[dec_of rfl];simp only[decide_true,Bool.not_true,cond_false];refine ra (held_path (n:=1+(A.1.2.1.length:Int)) (q594 (by omega) hN hrow (by omega) _) (by omega)) ?_;dsimp only;exact rd (by omega) (vc rfl (rb rfl))
end Go.Proofs.YtlmfklfjmalanaaGreatDoor
