/- FnExactCornerTimings,the plain law. No program in sight. -/
import Derived.Test.YtdgabcjahjmdoaaGreatDoorPgZ
import Derived.Test.YtdgabcjahjmdoaaGreatDoorPwHelp
import Derived.Test.YtdgabcjahjmdoaaGreatDoorPwHelpM
import Derived.Test.YtdgabcjahjmdoaaGreatDoorPgV
namespace Go.Proofs.YtdgabcjahjmdoaaGreatDoor
set_option linter.unusedSimpArgs false
set_option linter.unusedVariables false
set_option linter.unusedSectionVars false
abbrev SpT:Ty := .agg (.pair (.int .i64) (.pair (.int .i64) .nil))
abbrev CornsT:Ty := .slice (.agg (.pair .str (.pair (.int .i64) (.pair (.int .i64) (.pair (.int .i64) (.pair (.int .i64) .nil))))))
abbrev SourcesT:Ty := .slice (.agg (.pair (.int .i64) (.pair SpT (.pair SpT .nil))))
theorem law(x:(Ty.pair TBlock (.pair CornsT (.pair (.slice (.int .i64)) (.pair SourcesT .nil)))).den)(hx:(Ty.pair TBlock (.pair CornsT (.pair (.slice (.int .i64)) (.pair SourcesT .nil)))).fits x):∃ N,F_271 N x=some (true,()):=by
 obtain ⟨b,cs,br,l,u⟩:=x;obtain ⟨N,hM⟩:∃ N:Nat,1000000000000<=N:=⟨1000000000000,Nat.le_refl _⟩;have hN:4000000<=N:=by omega
 refine ⟨N,Ret.eq ?_⟩;unfold F_271;dsimp only;refine rf ?_ ?_ <;> intro hbr
 .exact rb rfl
 have h_br:br.length<4000000:=by omega
 refine Ret.bind (q834 hN b 1048576 (by omega) hx.1 _) ?_;rintro ⟨room0,w0⟩ ⟨hr0,hs0⟩;dsimp only at hr0 hs0 |-;refine rf ?_ ?_ <;> intro h00
 .exact rb rfl
 obtain ⟨h_b,c_b⟩:=hs0 (by omega)
 replace h_b:SmallB b:=h_b
 have ce_b:=q856 b;refine Ret.bind (q721 hN cs room0 (by omega) hx.2.1 _) ?_;rintro ⟨room1,w1⟩ ⟨hr1,hs1⟩;dsimp only at hr1 hs1 |-;refine rf ?_ ?_ <;> intro h01
 .exact rb rfl
 obtain ⟨h_cs,c_cs⟩:=hs1 (by omega);refine Ret.bind (q705 hN l room1 (by omega) hx.2.2.2.1 _) ?_;rintro ⟨room2,w2⟩ ⟨hr2,hs2⟩;dsimp only at hr2 hs2 |-;refine rf ?_ ?_ <;> intro h02
 .exact rb rfl
 obtain ⟨h_l,c_l⟩:=hs2 (by omega);have e_br:q38 br=br.length:=by
  unfold q38;clear hbr h_br hx
  induction br with
  | nil=>rfl
  | cons x br ih=>rw[List.map_cons,List.sum_cons,ih,aF]; omega
 have c_br:(q38 br:Int)<=1048576:=by rw[e_br]; omega
 obtain ⟨len4,lens⟩:=q859 hM (b:=b) (br:=br) (l:=l) cs;have hS:∀ u,F_103 N (b,cs,br,l,u)=some (ctsR N b cs br l):=q849 hM h_b h_br h_l h_cs.1 h_cs.2;have hI:∀ u,F_222 N (b,cs,br,l,u)=some (ctsR N b cs br l):=q853 hM h_b h_br h_l h_cs.1 h_cs.2;generalize ctsR N b cs br l=A at len4 lens hS hI;have hT:A.1.length<4000000/\∀ e0∈A.1,(e0.1.length<4000000)/\(e0.2.1.length<4000000)/\(e0.2.2.1.length<4000000):=⟨by omega,fun t ht=>by have:=lens t ht; omega⟩;refine ra (q379 hN b h_b _) (ra (q248 hN cs h_cs _) (ra (q63 hN br h_br _) (ra (q246 hN l h_l _) ?_)));refine ra (hS _) ?_;refine ra (q379 hN b h_b _) (ra (q248 hN cs h_cs _) (ra (q63 hN br h_br _) (ra (q246 hN l h_l _) ?_)));refine ra (hI _) ?_;refine ra (q335 hN _ _ hT _) ?_;dsimp only;rw[dec_of rfl];refine rz rfl ?_;refine ra (q379 hN b h_b _) ?_;refine ra (q845 hN b b h_b _) ?_;dsimp only;rw[dec_of rfl];refine rm (fun h=>by cases h) fun _=>?_;refine ra (q248 hN cs h_cs _) ?_;refine ra (q706 hN cs cs h_cs _) ?_;dsimp only;rw[dec_of rfl];refine rm (fun h=>by cases h) fun _=>?_;refine ra (q63 hN br h_br _) ?_;refine ra (q91 hN br br h_br _) ?_;dsimp only;rw[dec_of rfl];refine rm (fun h=>by cases h) fun _=>?_;refine ra (q246 hN l h_l _) ?_;refine ra (q715 hN l l h_l _) ?_;dsimp only;rw[dec_of rfl];refine rm (fun h=>by cases h) fun _=>?_;refine ra (q825 hM b h_b 1 (by omega) (by omega)) ?_;refine ra (q698 hM cs h_cs _ (by omega) (by omega)) ?_;refine ra (q94 hM br h_br _ (by omega) (by omega)) ?_;refine ra (q728 hM l h_l _ (by omega) (by omega)) ?_;refine rd (by omega) ?_;refine ra (q335 hN _ _ hT _) ?_;dsimp only;rw[dec_of rfl];refine rz rfl ?_;have hw:=q178 A.1;refine Ret.markTims lens (by omega) hN fun us hus=>?_;dsimp only;have held:∀ w:Unit,F_270 N (us,(1:Int),w)=some (1+widS A.1,()):=q742 lens (by omega) hN hus;refine ra (held _) ?_;dsimp only;refine rd (by omega) (rz rfl ?_);refine ra (q379 hN b h_b _) (ra (q248 hN cs h_cs _) (ra (q63 hN br h_br _) (ra (q246 hN l h_l _) ?_)));refine ra (hI _) ?_;refine ra (q335 hN _ _ hT _) ?_;dsimp only;rw[dec_of rfl];refine rz rfl ?_;refine ra (held _) ?_;dsimp only;exact rd (by omega) (rz rfl (rb rfl))
end Go.Proofs.YtdgabcjahjmdoaaGreatDoor
