/- FnSkew: the law's call returns true for every input,and what was there stays as it was. No condition. -/
import Derived.Test.YtcmhpcoiomdekaaGreatDoorCards
import Derived.Test.YtcmhpcoiomdekaaGreatDoorTie
import Derived.Test.YtcmhpcoiomdekaaGreatDoorPgF
import Derived.Test.YtcmhpcoiomdekaaGreatDoorPvD3
import Derived.Test.YtcmhpcoiomdekaaGreatDoorPwLSkm
import Derived.Test.YtcmhpcoiomdekaaGreatDoorPwGSkm
import Derived.WalkKit
import Derived.ProofKit
import Derived.OpenShut
import Derived.ShutString
import Derived.ChangeOld
import Derived.Below
import Derived.Deep.DeepHandedRow
import Derived.Lib.LaidTab
namespace Go.Proofs.YtcmhpcoiomdekaaGreatDoor.fnSkew
set_option linter.unusedSimpArgs false
set_option linter.unusedVariables false
open Go.Lib Go.ChangeShapes Go.WideShapes Go.ChangeAt Go.RowKit
open Go.ChangeMaps (open_string shut_string)
theorem own:ownKnob Tryz.prog.godebug=none:=by kernel_rfl
theorem laidOut:laidOutB Tryz.prog=true:=pf_laidOut
theorem pre_of_laid{W:World}(_:laidMet Tryz.prog Rows.fnSkewRow.laid W):PRE W:=trivial
set_option maxRecDepth 100000 in
theorem contract(H:Type)(enc:TypeId×Value->H)(W:World)(base:Nat)(args:Array Value)(ds gs:List (DataW H))(before:List MemPlace)
 (hval:∀(j:Nat) t v,Tryz.f5.params[j]?=some t->args[j]?=some v->Value.okWide Tryz.prog W .any base t v)
 (hW:DataW.Whole enc Tryz.prog Tryz.f5.params.toList Rows.fnSkewSpec.vars false W args.toList ds gs before) (hpre:PRE W):
 Calls Tryz.prog 5 args W fun e W'=>∃ v,e = .returned v/\Rows.fnSkewSpec.post enc Tryz.prog Tryz.f5 false true false false W args v W':=by
 have hW':=hW;obtain ⟨p,q,hA0,hV,rfl,hfz,hnd⟩:=hW;have hA:DataW.TrodAll enc Tryz.prog W 0 (fun _=>true) true Tryz.f5.params.toList args.toList ds p:=hA0;rw[Tryz.params5] at hA hval;obtain ⟨v0,vs0,d0,ds0,p0,q0,hargs,rfl,rfl,h0,r0⟩:=trodAll_cons hA;obtain ⟨rfl,rfl,rfl⟩:=trodAll_nil r0;obtain rfl:args=#[v0]:=by cases args; simp_all
 have k0:=h0;have lt0:∀ x∈p0,x.block<W.heap.size:=by obtain ⟨m,hm⟩:=k0; exact DataW.trod_lt m _ _ _ hm
 obtain ⟨A0,n0,c0,hs0⟩:=okWide_slice Tryz.underlying22 (hval 0 22 v0 rfl rfl);obtain ⟨x0,cx0,hx0,hr0⟩:=q603 (n:=16) (E:=(.slice (.int .u8))) (by kernel_rfl) h0 (by rw[hs0]; simp[pack1,Ty.isAgg,Value.cells]);clear hA0;obtain ⟨rfl,rfl⟩:=trodVars_none hV;refine (q335 (ps := .pair (.slice (.int .u8)) .nil) (F_46) _ (fun N=>rfl) Z_46 law (args:=#[v0]) (x:=(x0,())) hpre ⟨⟨cx0,hx0,hr0⟩,trivial⟩).mono fun e W' ⟨he,hext⟩=>?_;have bel:Below W.heap.size W W':=hext;subst he;exact ⟨_,rfl,_,_,_,[],_,[],hW',trodAll_mk1 (shut_bool Tryz.underlying4 _),(trodAll_cons_mk (Below.trod laidOut (by kernel_rfl) (of_decide_eq_true (by kernel_rfl)) k0 bel lt0) trodAll_mk0),rfl,bel.frame _,fun h=>by cases h⟩
noncomputable def laidHeap(os:Os):Array Obj:=(((World.holding Tryz.prog os ⟨#[],#[],[]⟩).heap).modify 4 (fun ob=>match ob with | .cells _ t frozen => .cells #[.int .u8 128,.int .u8 191,.int .u8 160,.int .u8 191,.int .u8 128,.int .u8 159,.int .u8 144,.int .u8 191,.int .u8 128,.int .u8 143,.int .u8 0,.int .u8 0,.int .u8 0,.int .u8 0,.int .u8 0,.int .u8 0,.int .u8 0,.int .u8 0,.int .u8 0,.int .u8 0,.int .u8 0,.int .u8 0,.int .u8 0,.int .u8 0,.int .u8 0,.int .u8 0,.int .u8 0,.int .u8 0,.int .u8 0,.int .u8 0,.int .u8 0,.int .u8 0] t frozen | ob=>ob)).modify 3 (fun ob=>match ob with | .cells _ t frozen => .cells ((Go.Pinned.utf8FirstZ.map (fun n=>Value.int IntKind.u8 (Int.ofNat n))).toArray) t frozen | ob=>ob)
noncomputable def laidWorld(os:Os):World:={ World.holding Tryz.prog os ⟨#[],#[],[]⟩ with heap:=laidHeap os }
theorem laid_met(os:Os):laidMet Tryz.prog Rows.fnSkewRow.laid ((laidWorld os).forCall (fun _ _=>0) ⟨#[],#[.slice none 0 0],[]⟩).memory:=
 laidMet_of_run' 8 (by kernel_rfl) (by kernel_rfl)
theorem reads(os:Os){H:Type}(enc:TypeId×Value->H):∃ places,DataW.whole enc Tryz.prog ((laidWorld os).forCall (fun _ _=>0) ⟨#[],#[.slice none 0 0],[]⟩).memory Tryz.f5.params.toList Rows.fnSkewSpec.vars false (#[.slice none 0 0]:Array Value).toList 8=some ([.nil],[],places):=
 ⟨[],by kernel_rfl⟩
set_option maxRecDepth 100000 in
theorem lifted(os:Os)(started:os.Started)(H:Type)(enc:TypeId×Value->H)(F:Stop.Interp):
 ReturnsInHanded {} Tryz.checked os 5 .any ((OpenSpec.ofChange Rows.fnSkewSpec).preRow enc Tryz.prog Tryz.f5 Rows.fnSkewRow.domain false Rows.fnSkewRow.laid) (((OpenSpec.ofChange Rows.fnSkewSpec).at F).post enc Tryz.prog Tryz.f5 false true false false):=by
 obtain ⟨places,hx⟩:=reads os enc
 refine returnsInHanded_of_row (C:=Tryz.checked) (s:=OpenSpec.ofChange Rows.fnSkewSpec) own started (by kernel_rfl) Tryz.func5
  (witness_row_at (enc:=enc) (C:=Tryz.checked) false (laidWorld os) #[.slice none 0 0] rfl (by kernel_rfl) (by kernel_rfl) (by kernel_rfl)
   (OpenSpec.preRow_of_cond 8 hx (by kernel_rfl) (fun k hk=>by cases hk) (by kernel_rfl) (laid_met os))) ?_
 intro W base args ds gs before hval hW _ _ _ hL _ _;exact contract H enc W base args ds gs before hval hW (pre_of_laid hL)
theorem said:Rows.FnSkewSaid:=
 OpenClaim.holds_of_cond 5 Tryz.f5 rfl rfl rfl rfl rfl rfl rfl ⟨rfl,rfl,rfl,rfl,rfl⟩ rfl rfl rfl rfl rfl (by kernel_rfl) Tryz.func5 closed
  (of_decide_eq_true (by kernel_rfl)) (by unfold Func.isWrapper; first | (rw[if_pos (by decide +kernel)]; kernel_rfl) | (rw[if_neg (by decide +kernel)]; exact ⟨rfl,rfl⟩))
  (fun os started H enc _ F=>by rw[OpenClaim.pre_eq_preRow]; exact lifted os started H enc F)
theorem plain(f:FuncId)(fn:Func)(hf:Tryz.pinned.checked.prog.funcNamed Rows.fnSkewRow.func=some f)(hfn:Tryz.pinned.checked.prog.funcs[f]?=some fn):
 false=Tryz.pinned.checked.prog.looks []/\∀(j:Nat) t,fn.params[j]?=some t->Tryz.pinned.checked.prog.wantsStandIn t=false:=by
 obtain rfl:f=5:=Option.some.inj ((show Tryz.prog.funcNamed Rows.fnSkewRow.func=some 5 by kernel_rfl).symm.trans hf) |>.symm
 obtain rfl:fn=Tryz.f5:=(Option.some.inj (Tryz.func5.symm.trans hfn)).symm;refine ⟨by kernel_rfl,fun j t ht=>?_⟩;rw[Tryz.params5] at ht;have hm:=Array.mem_of_getElem? ht;have hall:∀ t∈([22]:List Nat),Tryz.prog.wantsStandIn t=false:=by intro t ht;simp only[List.mem_cons,List.mem_nil_iff,or_false] at ht;rcases ht with rfl <;> kernel_rfl
 exact hall t (by simpa using hm)
theorem proved:Rows.FnSkewCardSaid:=
 Claim7.holds_tied_plain_at .later [] _ _ _ _ said (fun _ h=>by cases h) (by kernel_rfl) (fun _ h=>by cases h) fnSkew_row_tie rfl ⟨rfl,rfl⟩ (by kernel_rfl) rfl plain pf_goes
end Go.Proofs.YtcmhpcoiomdekaaGreatDoor.fnSkew
