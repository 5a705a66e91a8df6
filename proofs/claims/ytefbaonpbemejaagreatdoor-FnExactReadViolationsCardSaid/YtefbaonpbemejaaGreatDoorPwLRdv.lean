/- FnExactReadViolations,the plain law. No program in sight. -/
import Derived.Test.YtefbaonpbemejaaGreatDoorPgV
import Derived.Test.YtefbaonpbemejaaGreatDoorPwHelp
import Derived.Test.YtefbaonpbemejaaGreatDoorPwHelpM
namespace Go.Proofs.YtefbaonpbemejaaGreatDoor
set_option linter.unusedSimpArgs false
set_option linter.unusedVariables false
set_option linter.unusedSectionVars false
theorem readV_len(N:Nat)(b:DBlock)(t:ByteArray):(readV N b t).1.length<=40:=by
 unfold readV;split
 .rename_i h;exact h.choose_spec.1.2.2
 .exact Nat.zero_le _
theorem readV_both{N:Nat}(hN:HN N){b:DBlock}(hs:SmallB b)(t:ByteArray)(u:Unit):∃ r:List DViolation×Int×Unit,F_75 N (b,t,u)=some r/\F_164 N (b,t,u)=some r/\r.1.length<=40:=by
 by_cases hb:BlockP b
 .by_cases ht:t.size<=6000
  .exact ⟨_,q261 hN hs hb ht,q258 hN hs hb ht,readV_len N b t⟩
  .refine ⟨([],3,()),?_,?_,Nat.zero_le _⟩ <;> refine Ret.eq ?_
   .unfold F_75;dsimp only;refine rb (q160 hN hs) ?_;rw[dec_of hb];exact rg (by omega) (ra rfl)
   .unfold F_164;dsimp only;refine rb (q236 hN hs) ?_;rw[dec_of hb];exact rg (by omega) (ra rfl)
 .refine ⟨([],1,()),?_,?_,Nat.zero_le _⟩ <;> refine Ret.eq ?_
  .unfold F_75;dsimp only;refine rb (q160 hN hs) ?_;rw[q88 hb];exact ra rfl
  .unfold F_164;dsimp only;refine rb (q236 hN hs) ?_;rw[q88 hb];exact ra rfl
theorem law(x:(Ty.pair TBlock (.pair .str .nil)).den)(hx:(Ty.pair TBlock (.pair .str .nil)).fits x):∃ N,F_201 N x=some (true,()):=by
 obtain ⟨b,t,u⟩:=x;obtain ⟨N,hM⟩:∃ N:Nat,1000000000000<=N:=⟨1000000000000,aa _⟩;have hN:4000000<=N:=by omega
 refine ⟨N,Ret.eq ?_⟩;unfold F_201;dsimp only;refine rf ?_ ?_ <;> intro h00
 .exact ra rfl
 refine Ret.bind (q819 hN b 1048576 (by omega) hx.1 _) ?_;rintro ⟨room0,w0⟩ ⟨hr0,hs0⟩;dsimp only at hr0 hs0 |-;refine rf ?_ ?_ <;> intro h01
 .exact ra rfl
 obtain ⟨h_b,c_b⟩:=hs0 (by omega)
 replace h_b:SmallB b:=h_b
 have ce_b:=q816 b;obtain ⟨A,hS,hI,hlen⟩:=readV_both hN h_b t u;refine rb (q389 hN b h_b _) (rb hS ?_);refine rb (q389 hN b h_b _) (rb hI ?_);refine rb (q195 hN _ _ (show A.1.length<4000000 by omega) _) ?_;dsimp only;rw[dec_of rfl];refine rz rfl ?_;refine rb (q389 hN b h_b _) (rb (q837 hN b b h_b _) ?_);dsimp only;rw[dec_of rfl];refine rb (q835 hM b h_b 1 (by omega) (by omega)) (re (by omega) ?_);refine rb (q195 hN _ _ (show A.1.length<4000000 by omega) _) ?_;dsimp only;rw[dec_of rfl];refine rz rfl ?_;refine Ret.markViols (by omega) hN fun row hrl hrow=>?_;dsimp only;refine rb (q478 (n:=1+3 * (A.1.length:Int)) (by omega) hN hrow (by omega) _) ?_;dsimp only;refine re (by omega) (rz rfl ?_);refine rb (q389 hN b h_b _) (rb hI ?_);refine rb (q195 hN _ _ (show A.1.length<4000000 by omega) _) ?_;dsimp only;rw[dec_of rfl];refine rz rfl ?_;refine rb (q478 (n:=1+3 * (A.1.length:Int)) (by omega) hN hrow (by omega) _) ?_;dsimp only;exact re (by omega) (rz rfl (ra rfl))
end Go.Proofs.YtefbaonpbemejaaGreatDoor
