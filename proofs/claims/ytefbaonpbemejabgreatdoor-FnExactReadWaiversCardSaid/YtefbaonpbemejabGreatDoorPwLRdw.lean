/- FnExactReadWaivers,the plain law. No program in sight. -/
import Derived.Test.YtefbaonpbemejabGreatDoorPgV
import Derived.Test.YtefbaonpbemejabGreatDoorPwHelp
import Derived.Test.YtefbaonpbemejabGreatDoorPwHelpM
namespace Go.Proofs.YtefbaonpbemejabGreatDoor
set_option linter.unusedSimpArgs false
set_option linter.unusedVariables false
set_option linter.unusedSectionVars false
theorem law(x:(Ty.pair TBlock (.pair .str .nil)).den)(hx:(Ty.pair TBlock (.pair .str .nil)).fits x):∃ N,F_202 N x=some (true,()):=by
 obtain ⟨b,t,u⟩:=x;obtain ⟨N,hM⟩:∃ N:Nat,1000000000000<=N:=⟨1000000000000,ab _⟩;have hN:4000000<=N:=by omega
 refine ⟨N,Ret.eq ?_⟩;unfold F_202;dsimp only;refine rg ?_ ?_ <;> intro h00
 .exact ra rfl
 refine Ret.bind (q824 hN b 1048576 (by omega) hx.1 _) ?_;rintro ⟨room0,w0⟩ ⟨hr0,hs0⟩;dsimp only at hr0 hs0 |-;refine rg ?_ ?_ <;> intro h01
 .exact ra rfl
 obtain ⟨h_b,c_b⟩:=hs0 (by omega)
 replace h_b:SmallB b:=h_b
 have ce_b:=q797 b;obtain ⟨A,hS,hI,hlen,hsm⟩:=q709 hN h_b t u;have hAs:A.1.length<4000000/\∀ e0∈A.1,e0.2.2.2.2.1.size<4000000:=⟨by omega,hsm⟩;refine rb (q374 hN b h_b _) (rb hS ?_);refine rb (q374 hN b h_b _) (rb hI ?_);refine rb (q325 hN _ _ hAs _) ?_;dsimp only;rw[dec_of rfl];refine ry rfl (ry rfl ?_);refine rb (q374 hN b h_b _) (rb (q814 hN b b h_b _) ?_);dsimp only;rw[dec_of rfl];refine rb (q827 hM b h_b 1 (by omega) (by omega)) (re (by omega) ?_);refine rb (q325 hN _ _ hAs _) ?_;dsimp only;rw[dec_of rfl];refine ry rfl (ry rfl ?_);refine Ret.markWaivs (by omega) hM fun row hrl hrow=>?_;dsimp only;refine rb (q454 (n:=1+5 * (A.1.length:Int)) (by omega) hM hrow (by omega) _) ?_;dsimp only;refine re (by omega) (ry rfl ?_);refine rb (q374 hN b h_b _) (rb hI ?_);refine rb (q325 hN _ _ hAs _) ?_;dsimp only;rw[dec_of rfl];refine ry rfl (ry rfl ?_);refine rb (q454 (n:=1+5 * (A.1.length:Int)) (by omega) hM hrow (by omega) _) ?_;dsimp only;exact re (by omega) (ry rfl (ra rfl))
end Go.Proofs.YtefbaonpbemejabGreatDoor
