/- FnWaiverFile: the law's call returns true for every input,and what was there stays as it was. No condition. -/
import Derived.Test.YtefbaonpbemejabGreatDoorCards
import Derived.Test.YtefbaonpbemejabGreatDoorTie
import Derived.Test.YtefbaonpbemejabGreatDoorPgF
import Derived.Test.YtefbaonpbemejabGreatDoorPvD2
import Derived.Test.YtefbaonpbemejabGreatDoorPwLWfl
import Derived.Test.YtefbaonpbemejabGreatDoorPgU
import Derived.OpenVars
import Derived.Shelf.Vars
import Derived.ChangeVars
import Derived.Test.YtefbaonpbemejabGreatDoorPwGWfl
import Derived.WalkKit
import Derived.ProofKit
import Derived.OpenShut
import Derived.ShutString
import Derived.ChangeOld
import Derived.Below
import Derived.Deep.DeepHandedRow
import Derived.Lib.LaidTab
namespace Go.Proofs.YtefbaonpbemejabGreatDoor.fnWaiverFile
set_option linter.unusedSimpArgs false
set_option linter.unusedVariables false
open Go.Lib Go.ChangeShapes Go.WideShapes Go.ChangeAt Go.RowKit
open Go.ChangeMaps (open_string shut_string)
theorem own:ownKnob Tryz.prog.godebug=none:=by kernel_rfl
theorem laidOut:laidOutB Tryz.prog=true:=pf_laidOut
theorem pre_of_laid{W:World}(h:laidMet Tryz.prog Rows.fnWaiverFileRow.laid W)(hsh:W.ShapedOpen Tryz.prog):PRE W:=by
 have h3 : laidMet Tryz.prog [("internal/strconv.uint64pow10", tabData .u64 pow10Tab), ("unicode/utf8.acceptRanges", Rows.laid_unicode_utf8_acceptRanges), ("strconv.ErrRange", Rows.laid_strconv_ErrRange), ("strconv.ErrSyntax", Rows.laid_strconv_ErrSyntax), ("loop.example/g00861/impl.kindWords", Rows.laid_loop_example_g00861_impl_kindWords), ("unicode/utf8.first", Rows.laid_unicode_utf8_first)] W := q155 (q155 h)
 have h5 : laidMet Tryz.prog [("strconv.ErrRange", Rows.laid_strconv_ErrRange), ("strconv.ErrSyntax", Rows.laid_strconv_ErrSyntax), ("loop.example/g00861/impl.kindWords", Rows.laid_loop_example_g00861_impl_kindWords), ("unicode/utf8.first", Rows.laid_unicode_utf8_first)] W := q155 (q155 h3)
 have h6 : laidMet Tryz.prog [("strconv.ErrSyntax", Rows.laid_strconv_ErrSyntax), ("loop.example/g00861/impl.kindWords", Rows.laid_loop_example_g00861_impl_kindWords), ("unicode/utf8.first", Rows.laid_unicode_utf8_first)] W := q155 h5
 have h7 : laidMet Tryz.prog [("loop.example/g00861/impl.kindWords", .agg (q18.map fun z => .lit (.string z.data.toList))), ("unicode/utf8.first", Rows.laid_unicode_utf8_first)] W := q155 h6
 exact q570 (tabIs_of_head (g:=4) (t:=321) (e:=270) (n:=20) (by kernel_rfl) (by kernel_rfl) (by kernel_rfl) (by kernel_rfl) (by kernel_rfl) (by kernel_rfl) h3)
  (cell_of_shapedOpen_int (g:=1) (t:=3) (zero:=#[.int .i64 0]) hsh (of_decide_eq_true (by kernel_rfl)) (by kernel_rfl) rfl (by kernel_rfl) (by kernel_rfl) Tryz.underlying3)
  (q406 (g:=0) (t:=132) (e:=9) (n:=3) (by kernel_rfl) (by kernel_rfl) (by kernel_rfl) (by kernel_rfl) (by kernel_rfl) (by kernel_rfl) h7)
  (q185 (g:=2) h6 (by kernel_rfl) (by kernel_rfl)) (q185 (g:=3) h5 (by kernel_rfl) (by kernel_rfl))
set_option maxRecDepth 100000 in
theorem contract(H:Type)(enc:TypeId×Value->H)(W:World)(base:Nat)(args:Array Value)(ds gs:List (DataW H))(before:List MemPlace)
 (hval:∀(j:Nat) t v,Tryz.f4.params[j]?=some t->args[j]?=some v->Value.okWide Tryz.prog W .any base t v)
 (hW:DataW.Whole enc Tryz.prog Tryz.f4.params.toList Rows.fnWaiverFileSpec.vars false W args.toList ds gs before) (hpre:PRE W):
 Calls Tryz.prog 4 args W fun e W'=>∃ v,e = .returned v/\Rows.fnWaiverFileSpec.post enc Tryz.prog Tryz.f4 false true false false W args v W':=by
 have hW':=hW;obtain ⟨p,q,hA0,hV,rfl,hfz,hnd⟩:=hW;have hA:DataW.TrodAll enc Tryz.prog W 0 (fun _=>true) true Tryz.f4.params.toList args.toList ds p:=hA0;rw[Tryz.params4] at hA hval;obtain ⟨v0,vs0,d0,ds0,p0,q0,hargs,rfl,rfl,h0,r0⟩:=trodAll_cons hA;obtain ⟨rfl,rfl,rfl⟩:=trodAll_nil r0;obtain rfl:args=#[v0]:=by cases args; simp_all
 have k0:=h0;have lt0:∀ x∈p0,x.block<W.heap.size:=by obtain ⟨m,hm⟩:=k0; exact DataW.trod_lt m _ _ _ hm
 obtain ⟨A0,n0,c0,hs0⟩:=okWide_slice Tryz.underlying53 (hval 0 53 v0 rfl rfl);obtain ⟨x0,cx0,hx0,hr0⟩:=q576 (n:=16) (E:=(.slice (.int .u8))) (by kernel_rfl) h0 (by rw[hs0]; simp[pack1,Ty.isAgg,Value.cells]);clear hA0
 have hV1 : DataW.TrodVars enc Tryz.prog W (fun _ => true) ["loop.example/g00861/impl.kindWords"] gs q := hV
 obtain ⟨_,_,_,_,g0,_,rfl,_⟩:=trodVars_one hV1;refine (q308 (ps := .pair (.slice (.int .u8)) .nil) (F_23) _ (fun N=>rfl) Z_23 law (args:=#[v0]) (x:=(x0,())) hpre ⟨⟨cx0,hx0,hr0⟩,trivial⟩).mono fun e W' ⟨he,hext⟩=>?_;have bel:Below W.heap.size W W':=hext;subst he;exact ⟨_,rfl,_,_,_,[],_,_,hW',trodAll_mk1 (shut_bool Tryz.underlying4 _),(trodAll_cons_mk (Below.trod laidOut (by kernel_rfl) (of_decide_eq_true (by kernel_rfl)) k0 bel lt0) trodAll_mk0),Below.trodVars laidOut bel (by kernel_rfl) hV1,bel.frame _,fun h=>by cases h⟩
noncomputable def low:Nat:=(World.holding Tryz.prog default ⟨#[],#[],[]⟩).heap.size
noncomputable def laidHeap(os:Os):Array Obj:=(((((((((World.holding Tryz.prog os ⟨#[.cells #[.string ⟨#[118,97,108,117,101,32,111,117,116,32,111,102,32,114,97,110,103,101]⟩] 340,.cells #[.string ⟨#[105,110,118,97,108,105,100,32,115,121,110,116,97,120]⟩] 340],#[],[]⟩).heap).modify 7 (fun ob=>match ob with | .cells _ t frozen => .cells #[.int .u8 0,.int .u8 1,.int .u8 28,.int .u8 2,.int .u8 29,.int .u8 14,.int .u8 24,.int .u8 3,.int .u8 30,.int .u8 22,.int .u8 20,.int .u8 15,.int .u8 25,.int .u8 17,.int .u8 4,.int .u8 8,.int .u8 31,.int .u8 27,.int .u8 13,.int .u8 23,.int .u8 21,.int .u8 19,.int .u8 16,.int .u8 7,.int .u8 26,.int .u8 12,.int .u8 18,.int .u8 6,.int .u8 11,.int .u8 5,.int .u8 10,.int .u8 9] t frozen | ob=>ob)).modify 8 (fun ob=>match ob with | .cells _ t frozen => .cells #[.int .u8 0,.int .u8 1,.int .u8 56,.int .u8 2,.int .u8 57,.int .u8 49,.int .u8 28,.int .u8 3,.int .u8 61,.int .u8 58,.int .u8 42,.int .u8 50,.int .u8 38,.int .u8 29,.int .u8 17,.int .u8 4,.int .u8 62,.int .u8 47,.int .u8 59,.int .u8 36,.int .u8 45,.int .u8 43,.int .u8 51,.int .u8 22,.int .u8 53,.int .u8 39,.int .u8 33,.int .u8 30,.int .u8 24,.int .u8 18,.int .u8 12,.int .u8 5,.int .u8 63,.int .u8 55,.int .u8 48,.int .u8 27,.int .u8 60,.int .u8 41,.int .u8 37,.int .u8 16,.int .u8 46,.int .u8 35,.int .u8 44,.int .u8 21,.int .u8 52,.int .u8 32,.int .u8 23,.int .u8 11,.int .u8 54,.int .u8 26,.int .u8 40,.int .u8 15,.int .u8 34,.int .u8 20,.int .u8 31,.int .u8 10,.int .u8 25,.int .u8 14,.int .u8 19,.int .u8 9,.int .u8 13,.int .u8 8,.int .u8 7,.int .u8 6] t frozen | ob=>ob)).modify 4 (fun ob=>match ob with | .cells _ t frozen => .cells ((Go.Lib.pow10Tab.map (fun n=>Value.int IntKind.u64 n)).toArray) t frozen | ob=>ob)).modify 6 (fun ob=>match ob with | .cells _ t frozen => .cells #[.int .u8 128,.int .u8 191,.int .u8 160,.int .u8 191,.int .u8 128,.int .u8 159,.int .u8 144,.int .u8 191,.int .u8 128,.int .u8 143,.int .u8 0,.int .u8 0,.int .u8 0,.int .u8 0,.int .u8 0,.int .u8 0,.int .u8 0,.int .u8 0,.int .u8 0,.int .u8 0,.int .u8 0,.int .u8 0,.int .u8 0,.int .u8 0,.int .u8 0,.int .u8 0,.int .u8 0,.int .u8 0,.int .u8 0,.int .u8 0,.int .u8 0,.int .u8 0] t frozen | ob=>ob)).modify 3 (fun ob=>match ob with | .cells _ t frozen => .cells #[.iface 338 (.pointer (some ⟨low+0,0,none⟩))] t frozen | ob=>ob)).modify 2 (fun ob=>match ob with | .cells _ t frozen => .cells #[.iface 338 (.pointer (some ⟨low+1,0,none⟩))] t frozen | ob=>ob)).modify 0 (fun ob=>match ob with | .cells _ t frozen => .cells #[.string ⟨#[]⟩,.string ⟨#[115,101,116,117,112]⟩,.string ⟨#[104,111,108,100]⟩] t frozen | ob=>ob)).modify 5 (fun ob=>match ob with | .cells _ t frozen => .cells ((Go.Pinned.utf8FirstZ.map (fun n=>Value.int IntKind.u8 (Int.ofNat n))).toArray) t frozen | ob=>ob)
noncomputable def laidWorld(os:Os):World:={ World.holding Tryz.prog os ⟨#[],#[],[]⟩ with heap:=laidHeap os }
theorem laid_met(os:Os):laidMet Tryz.prog Rows.fnWaiverFileRow.laid ((laidWorld os).forCall (fun _ _=>0) ⟨#[],#[.slice none 0 0],[]⟩).memory:=
 laidMet_of_run' 8 (by kernel_rfl) (by kernel_rfl)
theorem reads(os:Os){H:Type}(enc:TypeId×Value->H):∃ places,DataW.whole enc Tryz.prog ((laidWorld os).forCall (fun _ _=>0) ⟨#[],#[.slice none 0 0],[]⟩).memory Tryz.f4.params.toList Rows.fnWaiverFileSpec.vars false (#[.slice none 0 0]:Array Value).toList 8=some ([.nil],[.agg [.lit (.string []),.lit (.string [115,101,116,117,112]),.lit (.string [104,111,108,100])]],places):=
 ⟨MemPlace.row ⟨0,0,none⟩ 3,by kernel_rfl⟩
set_option maxRecDepth 100000 in
theorem lifted(os:Os)(started:os.Started)(H:Type)(enc:TypeId×Value->H)(F:Stop.Interp):
 ReturnsInHanded {} Tryz.checked os 4 .any ((OpenSpec.ofChange Rows.fnWaiverFileSpec).preRow enc Tryz.prog Tryz.f4 Rows.fnWaiverFileRow.domain false Rows.fnWaiverFileRow.laid) (((OpenSpec.ofChange Rows.fnWaiverFileSpec).at F).post enc Tryz.prog Tryz.f4 false true false false):=by
 obtain ⟨places,hx⟩:=reads os enc
 refine returnsInHanded_of_row (C:=Tryz.checked) (s:=OpenSpec.ofChange Rows.fnWaiverFileSpec) own started (by kernel_rfl) Tryz.func4
  (witness_row_at (enc:=enc) (C:=Tryz.checked) false (laidWorld os) #[.slice none 0 0] rfl (by kernel_rfl) (by kernel_rfl) (by kernel_rfl)
   (OpenSpec.preRow_of_cond 8 hx (by kernel_rfl) (fun k hk=>by cases hk) (by kernel_rfl) (laid_met os))) ?_
 intro W base args ds gs before hval hW _ _ _ hL hSh _;exact contract H enc W base args ds gs before hval hW (pre_of_laid hL hSh)
theorem said:Rows.FnWaiverFileSaid:=
 OpenClaim.holds_of_cond 4 Tryz.f4 rfl rfl rfl rfl rfl rfl rfl ⟨rfl,rfl,rfl,rfl,rfl⟩ rfl rfl rfl rfl rfl (by kernel_rfl) Tryz.func4 closed
  (of_decide_eq_true (by kernel_rfl)) (by unfold Func.isWrapper; first | (rw[if_pos (by decide +kernel)]; kernel_rfl) | (rw[if_neg (by decide +kernel)]; exact ⟨rfl,rfl⟩))
  (fun os started H enc _ F=>by rw[OpenClaim.pre_eq_preRow]; exact lifted os started H enc F)
theorem plain(f:FuncId)(fn:Func)(hf:Tryz.pinned.checked.prog.funcNamed Rows.fnWaiverFileRow.func=some f)(hfn:Tryz.pinned.checked.prog.funcs[f]?=some fn):
 true=Tryz.pinned.checked.prog.looks []/\∀(j:Nat) t,fn.params[j]?=some t->Tryz.pinned.checked.prog.wantsStandIn t=false:=by
 obtain rfl:f=4:=Option.some.inj ((show Tryz.prog.funcNamed Rows.fnWaiverFileRow.func=some 4 by kernel_rfl).symm.trans hf) |>.symm
 obtain rfl:fn=Tryz.f4:=(Option.some.inj (Tryz.func4.symm.trans hfn)).symm;refine ⟨by kernel_rfl,fun j t ht=>?_⟩;rw[Tryz.params4] at ht;have hm:=Array.mem_of_getElem? ht;have hall:∀ t∈([53]:List Nat),Tryz.prog.wantsStandIn t=false:=by intro t ht;simp only[List.mem_cons,List.mem_nil_iff,or_false] at ht;rcases ht with rfl <;> kernel_rfl
 exact hall t (by simpa using hm)
theorem proved:Rows.FnWaiverFileCardSaid:=
 Claim7.holds_tied_plain_at .later [] _ _ _ _ said (fun _ h=>by cases h) (by kernel_rfl) (fun _ h=>by cases h) fnWaiverFile_row_tie rfl ⟨rfl,rfl⟩ (by kernel_rfl) rfl plain pf_goes
end Go.Proofs.YtefbaonpbemejabGreatDoor.fnWaiverFile
