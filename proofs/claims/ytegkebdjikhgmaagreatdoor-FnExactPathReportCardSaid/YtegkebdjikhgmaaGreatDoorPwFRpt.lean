/- FnExactPathReport: the law's call returns true for every input,and what was there stays as it was. No condition. -/
import Derived.Test.YtegkebdjikhgmaaGreatDoorCards
import Derived.Test.YtegkebdjikhgmaaGreatDoorTie
import Derived.Test.YtegkebdjikhgmaaGreatDoorPgF
import Derived.Test.YtegkebdjikhgmaaGreatDoorPvD2
import Derived.Test.YtegkebdjikhgmaaGreatDoorPwLRpt
import Derived.Test.YtegkebdjikhgmaaGreatDoorPgV
import Derived.OpenVars
import Derived.ChangeVars
import Derived.Test.YtegkebdjikhgmaaGreatDoorPwGRpt
import Derived.WalkKit
import Derived.ProofKit
import Derived.OpenShut
import Derived.ShutString
import Derived.ChangeOld
import Derived.Below
import Derived.Deep.DeepHandedRow
import Derived.Lib.LaidTab
namespace Go.Proofs.YtegkebdjikhgmaaGreatDoor.fnExactPathReport
set_option linter.unusedSimpArgs false
set_option linter.unusedVariables false
open Go.Lib Go.ChangeShapes Go.WideShapes Go.ChangeAt Go.RowKit
open Go.ChangeMaps (open_string shut_string)
theorem own:ownKnob Tryz.prog.godebug=none:=by kernel_rfl
theorem laidOut:laidOutB Tryz.prog=true:=pf_laidOut
theorem pre_of_laid {W:World} (h:laidMet Tryz.prog Rows.fnExactPathReportRow.laid W):PRE W:=by
 have h3 : laidMet Tryz.prog [("internal/strconv.uint64pow10", tabData .u64 pow10Tab), ("unicode/utf8.acceptRanges", Rows.laid_unicode_utf8_acceptRanges), ("loop.example/g00861/impl.modeWords", Rows.laid_loop_example_g00861_impl_modeWords), ("loop.example/g00861/impl.linkWords", Rows.laid_loop_example_g00861_impl_linkWords), ("unicode/utf8.first", Rows.laid_unicode_utf8_first)] W := q172 (q172 h)
 have h5 : laidMet Tryz.prog [("loop.example/g00861/impl.modeWords", .agg (q62.map fun z => .lit (.string z.data.toList))), ("loop.example/g00861/impl.linkWords", Rows.laid_loop_example_g00861_impl_linkWords), ("unicode/utf8.first", Rows.laid_unicode_utf8_first)] W := q172 (q172 h3)
 have h6 : laidMet Tryz.prog [("loop.example/g00861/impl.linkWords", .agg (q59.map fun z => .lit (.string z.data.toList))), ("unicode/utf8.first", Rows.laid_unicode_utf8_first)] W := q172 h5
 exact q582 (tabIs_of_head (g:=2) (t:=380) (e:=314) (n:=20) (by kernel_rfl) (by kernel_rfl) (by kernel_rfl) (by kernel_rfl) (by kernel_rfl) (by kernel_rfl) h3)
  (fun w1 hb1=>q640 (q208 (g:=0) (t:=124) (e:=9) (n:=2) (by kernel_rfl) (by kernel_rfl) (by kernel_rfl) (by kernel_rfl) (by kernel_rfl) (by kernel_rfl) h5 w1 hb1) (q208 (g:=1) (t:=136) (e:=9) (n:=3) (by kernel_rfl) (by kernel_rfl) (by kernel_rfl) (by kernel_rfl) (by kernel_rfl) (by kernel_rfl) h6 w1 hb1))
set_option maxRecDepth 100000 in
theorem contract (H:Type) (enc:TypeId×Value→H) (W:World) (base:Nat) (args:Array Value) (ds gs:List (DataW H)) (before:List MemPlace)
 (hval:∀ (j:Nat) t v,Tryz.f3.params[j]?=some t→args[j]?=some v→Value.okWide Tryz.prog W .any base t v)
 (hW:DataW.Whole enc Tryz.prog Tryz.f3.params.toList Rows.fnExactPathReportSpec.vars false W args.toList ds gs before) (hpre:PRE W):
 Calls Tryz.prog 3 args W fun e W'=>∃ v,e = .returned v∧Rows.fnExactPathReportSpec.post enc Tryz.prog Tryz.f3 false true false false W args v W':=by
 have hW':=hW
 obtain ⟨p,q,hA0,hV,rfl,hfz,hnd⟩:=hW
 have hA:DataW.TrodAll enc Tryz.prog W 0 (fun _=>true) true Tryz.f3.params.toList args.toList ds p:=hA0
 rw [Tryz.params3] at hA hval
 obtain ⟨v0,vs0,d0,ds0,p0,q0,hargs,rfl,rfl,h0,r0⟩:=trodAll_cons hA
 obtain ⟨v1,vs1,d1,ds1,p1,q1,rfl,rfl,rfl,h1,r1⟩:=trodAll_cons r0
 obtain ⟨v2,vs2,d2,ds2,p2,q2,rfl,rfl,rfl,h2,r2⟩:=trodAll_cons r1
 obtain ⟨v3,vs3,d3,ds3,p3,q3,rfl,rfl,rfl,h3,r3⟩:=trodAll_cons r2
 obtain ⟨rfl,rfl,rfl⟩:=trodAll_nil r3
 obtain rfl:args=#[v0,v1,v2,v3]:=by cases args; simp_all
 have k0:=h0
 have lt0:∀ x∈p0,x.block<W.heap.size:=by obtain ⟨m,hm⟩:=k0; exact DataW.trod_lt m _ _ _ hm
 obtain ⟨cs0,hs0,_⟩:=okWide_struct Tryz.underlying38 (hval 0 38 v0 rfl rfl)
 obtain ⟨x0,cx0,hx0,hr0⟩:=q164 (n:=16) (τ:=(.agg (.pair (.agg (.pair (.agg (.pair (.slice (.agg (.pair .str (.pair (.int .i64) (.pair (.slice (.agg (.pair .str (.pair (.int .i64) (.pair (.int .i64) (.pair .bool .nil)))))) (.pair (.slice (.agg (.pair (.int .i64) (.pair (.int .i64) (.pair (.int .i64) (.pair (.int .i64) (.pair (.slice (.agg (.pair (.slice (.int .i64)) (.pair (.slice (.int .i64)) (.pair (.slice (.int .i64)) .nil))))) (.pair (.slice (.agg (.pair (.slice (.int .i64)) (.pair (.slice (.int .i64)) (.pair (.slice (.int .i64)) .nil))))) .nil)))))))) (.pair (.slice (.int .i64)) (.pair (.int .i64) (.pair (.int .i64) .nil))))))))) .nil)) (.pair (.agg (.pair (.slice (.agg (.pair .str (.pair (.int .i64) (.pair (.slice (.int .i64)) .nil))))) (.pair (.slice .str) (.pair (.slice (.agg (.pair .str (.pair (.int .i64) (.pair (.int .i64) .nil))))) .nil)))) (.pair (.slice (.agg (.pair (.slice (.int .i64)) (.pair (.slice (.int .i64)) (.pair (.slice (.int .i64)) (.pair (.slice (.int .i64)) .nil)))))) .nil)))) (.pair (.agg (.pair .str (.pair (.int .i64) (.pair (.int .i64) (.pair (.int .i64) (.pair (.int .i64) .nil)))))) (.pair (.slice (.int .i64)) (.pair (.slice (.agg (.pair (.int .i64) (.pair (.agg (.pair (.int .i64) (.pair (.int .i64) .nil))) (.pair (.agg (.pair (.int .i64) (.pair (.int .i64) .nil))) .nil))))) .nil)))))) (by kernel_rfl) h0 (by rw [hs0]; simp [pack1,Ty.isAgg,Value.cells])
 have k1:=h1
 have lt1:∀ x∈p1,x.block<W.heap.size:=by obtain ⟨m,hm⟩:=k1; exact DataW.trod_lt m _ _ _ hm
 obtain ⟨n1,hs1⟩:=okWide_int Tryz.underlying2 (hval 1 2 v1 rfl rfl)
 obtain ⟨x1,cx1,hx1,hr1⟩:=q164 (n:=16) (τ:=(.int .i64)) (by kernel_rfl) h1 (by rw [hs1]; simp [pack1,Ty.isAgg,Value.cells])
 have k2:=h2
 have lt2:∀ x∈p2,x.block<W.heap.size:=by obtain ⟨m,hm⟩:=k2; exact DataW.trod_lt m _ _ _ hm
 obtain ⟨A2,n2,c2,hs2⟩:=okWide_slice Tryz.underlying35 (hval 2 35 v2 rfl rfl)
 obtain ⟨x2,cx2,hx2,hr2⟩:=q164 (n:=16) (τ:=(.slice (.int .i64))) (by kernel_rfl) h2 (by rw [hs2]; simp [pack1,Ty.isAgg,Value.cells])
 have k3:=h3
 have lt3:∀ x∈p3,x.block<W.heap.size:=by obtain ⟨m,hm⟩:=k3; exact DataW.trod_lt m _ _ _ hm
 obtain ⟨n3,hs3⟩:=okWide_int Tryz.underlying2 (hval 3 2 v3 rfl rfl)
 obtain ⟨x3,cx3,hx3,hr3⟩:=q164 (n:=16) (τ:=(.int .i64)) (by kernel_rfl) h3 (by rw [hs3]; simp [pack1,Ty.isAgg,Value.cells])
 clear hA0
 have hV1 : DataW.TrodVars enc Tryz.prog W (fun _ => true) ["loop.example/g00861/impl.modeWords", "loop.example/g00861/impl.linkWords"] gs q := hV
 obtain ⟨g0,g1,rfl⟩:=q760 hV1
 refine (q275 (ps := .pair (.agg (.pair (.agg (.pair (.agg (.pair (.slice (.agg (.pair .str (.pair (.int .i64) (.pair (.slice (.agg (.pair .str (.pair (.int .i64) (.pair (.int .i64) (.pair .bool .nil)))))) (.pair (.slice (.agg (.pair (.int .i64) (.pair (.int .i64) (.pair (.int .i64) (.pair (.int .i64) (.pair (.slice (.agg (.pair (.slice (.int .i64)) (.pair (.slice (.int .i64)) (.pair (.slice (.int .i64)) .nil))))) (.pair (.slice (.agg (.pair (.slice (.int .i64)) (.pair (.slice (.int .i64)) (.pair (.slice (.int .i64)) .nil))))) .nil)))))))) (.pair (.slice (.int .i64)) (.pair (.int .i64) (.pair (.int .i64) .nil))))))))) .nil)) (.pair (.agg (.pair (.slice (.agg (.pair .str (.pair (.int .i64) (.pair (.slice (.int .i64)) .nil))))) (.pair (.slice .str) (.pair (.slice (.agg (.pair .str (.pair (.int .i64) (.pair (.int .i64) .nil))))) .nil)))) (.pair (.slice (.agg (.pair (.slice (.int .i64)) (.pair (.slice (.int .i64)) (.pair (.slice (.int .i64)) (.pair (.slice (.int .i64)) .nil)))))) .nil)))) (.pair (.agg (.pair .str (.pair (.int .i64) (.pair (.int .i64) (.pair (.int .i64) (.pair (.int .i64) .nil)))))) (.pair (.slice (.int .i64)) (.pair (.slice (.agg (.pair (.int .i64) (.pair (.agg (.pair (.int .i64) (.pair (.int .i64) .nil))) (.pair (.agg (.pair (.int .i64) (.pair (.int .i64) .nil))) .nil))))) .nil))))) (.pair (.int .i64) (.pair (.slice (.int .i64)) (.pair (.int .i64) .nil)))) (F_275) _ (fun N=>rfl) Z_275 law (args:=#[v0,v1,v2,v3]) (x:=(x0,x1,x2,x3,())) hpre ⟨⟨cx0,hx0,hr0⟩,⟨cx1,hx1,hr1⟩,⟨cx2,hx2,hr2⟩,⟨cx3,hx3,hr3⟩,trivial⟩).mono fun e W' ⟨he,hext⟩=>?_
 have bel:Below W.heap.size W W':=hext
 subst he
 exact ⟨_,rfl,_,_,_,[],_,_,hW',trodAll_mk1 (shut_bool Tryz.underlying4 _),(trodAll_cons_mk (Below.trod laidOut (by kernel_rfl) (of_decide_eq_true (by kernel_rfl)) k0 bel lt0) (trodAll_cons_mk (Below.trod laidOut (by kernel_rfl) (of_decide_eq_true (by kernel_rfl)) k1 bel lt1) (trodAll_cons_mk (Below.trod laidOut (by kernel_rfl) (of_decide_eq_true (by kernel_rfl)) k2 bel lt2) (trodAll_cons_mk (Below.trod laidOut (by kernel_rfl) (of_decide_eq_true (by kernel_rfl)) k3 bel lt3) trodAll_mk0)))),Below.trodVars laidOut bel (by kernel_rfl) hV1,bel.frame _,fun h=>by cases h⟩
noncomputable def laidHeap (os:Os):Array Obj:=((((((((World.holding Tryz.prog os ⟨#[],#[],[]⟩).heap).modify 4 (fun ob=>match ob with | .cells _ t frozen => .cells #[.int .u8 0,.int .u8 1,.int .u8 28,.int .u8 2,.int .u8 29,.int .u8 14,.int .u8 24,.int .u8 3,.int .u8 30,.int .u8 22,.int .u8 20,.int .u8 15,.int .u8 25,.int .u8 17,.int .u8 4,.int .u8 8,.int .u8 31,.int .u8 27,.int .u8 13,.int .u8 23,.int .u8 21,.int .u8 19,.int .u8 16,.int .u8 7,.int .u8 26,.int .u8 12,.int .u8 18,.int .u8 6,.int .u8 11,.int .u8 5,.int .u8 10,.int .u8 9] t frozen | ob=>ob)).modify 5 (fun ob=>match ob with | .cells _ t frozen => .cells #[.int .u8 0,.int .u8 1,.int .u8 56,.int .u8 2,.int .u8 57,.int .u8 49,.int .u8 28,.int .u8 3,.int .u8 61,.int .u8 58,.int .u8 42,.int .u8 50,.int .u8 38,.int .u8 29,.int .u8 17,.int .u8 4,.int .u8 62,.int .u8 47,.int .u8 59,.int .u8 36,.int .u8 45,.int .u8 43,.int .u8 51,.int .u8 22,.int .u8 53,.int .u8 39,.int .u8 33,.int .u8 30,.int .u8 24,.int .u8 18,.int .u8 12,.int .u8 5,.int .u8 63,.int .u8 55,.int .u8 48,.int .u8 27,.int .u8 60,.int .u8 41,.int .u8 37,.int .u8 16,.int .u8 46,.int .u8 35,.int .u8 44,.int .u8 21,.int .u8 52,.int .u8 32,.int .u8 23,.int .u8 11,.int .u8 54,.int .u8 26,.int .u8 40,.int .u8 15,.int .u8 34,.int .u8 20,.int .u8 31,.int .u8 10,.int .u8 25,.int .u8 14,.int .u8 19,.int .u8 9,.int .u8 13,.int .u8 8,.int .u8 7,.int .u8 6] t frozen | ob=>ob)).modify 2 (fun ob=>match ob with | .cells _ t frozen => .cells ((Go.Lib.pow10Tab.map (fun n=>Value.int IntKind.u64 n)).toArray) t frozen | ob=>ob)).modify 7 (fun ob=>match ob with | .cells _ t frozen => .cells #[.int .u8 128,.int .u8 191,.int .u8 160,.int .u8 191,.int .u8 128,.int .u8 159,.int .u8 144,.int .u8 191,.int .u8 128,.int .u8 143,.int .u8 0,.int .u8 0,.int .u8 0,.int .u8 0,.int .u8 0,.int .u8 0,.int .u8 0,.int .u8 0,.int .u8 0,.int .u8 0,.int .u8 0,.int .u8 0,.int .u8 0,.int .u8 0,.int .u8 0,.int .u8 0,.int .u8 0,.int .u8 0,.int .u8 0,.int .u8 0,.int .u8 0,.int .u8 0] t frozen | ob=>ob)).modify 0 (fun ob=>match ob with | .cells _ t frozen => .cells #[.string ⟨#[101,97,114,108,121]⟩,.string ⟨#[108,97,116,101]⟩] t frozen | ob=>ob)).modify 1 (fun ob=>match ob with | .cells _ t frozen => .cells #[.string ⟨#[]⟩,.string ⟨#[99,101,108,108]⟩,.string ⟨#[119,105,114,101]⟩] t frozen | ob=>ob)).modify 6 (fun ob=>match ob with | .cells _ t frozen => .cells ((Go.Pinned.utf8FirstZ.map (fun n=>Value.int IntKind.u8 (Int.ofNat n))).toArray) t frozen | ob=>ob)
noncomputable def laidWorld (os:Os):World:={ World.holding Tryz.prog os ⟨#[],#[],[]⟩ with heap:=laidHeap os }
theorem laid_met (os:Os):laidMet Tryz.prog Rows.fnExactPathReportRow.laid ((laidWorld os).forCall (fun _ _=>0) ⟨#[],#[.agg #[.slice none 0 0,.slice none 0 0,.slice none 0 0,.slice none 0 0,.slice none 0 0,.string .empty,.int .i64 0,.int .i64 0,.int .i64 0,.int .i64 0,.slice none 0 0,.slice none 0 0],.int .i64 0,.slice none 0 0,.int .i64 0],[]⟩).memory:=
 laidMet_of_run' 8 (by kernel_rfl) (by kernel_rfl)
theorem reads (os:Os) {H:Type} (enc:TypeId×Value→H):∃ places,DataW.whole enc Tryz.prog ((laidWorld os).forCall (fun _ _=>0) ⟨#[],#[.agg #[.slice none 0 0,.slice none 0 0,.slice none 0 0,.slice none 0 0,.slice none 0 0,.string .empty,.int .i64 0,.int .i64 0,.int .i64 0,.int .i64 0,.slice none 0 0,.slice none 0 0],.int .i64 0,.slice none 0 0,.int .i64 0],[]⟩).memory Tryz.f3.params.toList Rows.fnExactPathReportSpec.vars false (#[.agg #[.slice none 0 0,.slice none 0 0,.slice none 0 0,.slice none 0 0,.slice none 0 0,.string .empty,.int .i64 0,.int .i64 0,.int .i64 0,.int .i64 0,.slice none 0 0,.slice none 0 0],.int .i64 0,.slice none 0 0,.int .i64 0]:Array Value).toList 8=some ([.agg [.agg [.agg [.nil],.agg [.nil,.nil,.nil],.nil],.agg [.lit (.string []),.lit (.int .i64 0),.lit (.int .i64 0),.lit (.int .i64 0),.lit (.int .i64 0)],.nil,.nil],.lit (.int .i64 0),.nil,.lit (.int .i64 0)],[.agg [.lit (.string [101,97,114,108,121]),.lit (.string [108,97,116,101])],.agg [.lit (.string []),.lit (.string [99,101,108,108]),.lit (.string [119,105,114,101])]],places):=
 ⟨MemPlace.row ⟨0,0,none⟩ 2++MemPlace.row ⟨1,0,none⟩ 3,by kernel_rfl⟩
set_option maxRecDepth 100000 in
theorem lifted (os:Os) (started:os.Started) (H:Type) (enc:TypeId×Value→H) (F:Stop.Interp):
 ReturnsInHanded {} Tryz.checked os 3 .any ((OpenSpec.ofChange Rows.fnExactPathReportSpec).preRow enc Tryz.prog Tryz.f3 Rows.fnExactPathReportRow.domain false Rows.fnExactPathReportRow.laid) (((OpenSpec.ofChange Rows.fnExactPathReportSpec).at F).post enc Tryz.prog Tryz.f3 false true false false):=by
 obtain ⟨places,hx⟩:=reads os enc
 refine returnsInHanded_of_row (C:=Tryz.checked) (s:=OpenSpec.ofChange Rows.fnExactPathReportSpec) own started (by kernel_rfl) Tryz.func3
  (witness_row_at (enc:=enc) (C:=Tryz.checked) false (laidWorld os) #[.agg #[.slice none 0 0,.slice none 0 0,.slice none 0 0,.slice none 0 0,.slice none 0 0,.string .empty,.int .i64 0,.int .i64 0,.int .i64 0,.int .i64 0,.slice none 0 0,.slice none 0 0],.int .i64 0,.slice none 0 0,.int .i64 0] rfl (by kernel_rfl) (by kernel_rfl) (by kernel_rfl)
   (OpenSpec.preRow_of_cond 8 hx (by kernel_rfl) (fun k hk=>by cases hk) (by kernel_rfl) (laid_met os))) ?_
 intro W base args ds gs before hval hW _ _ _ hL _ _
 exact contract H enc W base args ds gs before hval hW (pre_of_laid hL)
theorem said:Rows.FnExactPathReportSaid:=
 OpenClaim.holds_of_cond 3 Tryz.f3 rfl rfl rfl rfl rfl rfl rfl ⟨rfl,rfl,rfl,rfl,rfl⟩ rfl rfl rfl rfl rfl (by kernel_rfl) Tryz.func3 closed
  (of_decide_eq_true (by kernel_rfl)) (by unfold Func.isWrapper; first | (rw [if_pos (by decide +kernel)]; kernel_rfl) | (rw [if_neg (by decide +kernel)]; exact ⟨rfl,rfl⟩))
  (fun os started H enc _ F=>by rw [OpenClaim.pre_eq_preRow]; exact lifted os started H enc F)
theorem plain (f:FuncId) (fn:Func) (hf:Tryz.pinned.checked.prog.funcNamed Rows.fnExactPathReportRow.func=some f) (hfn:Tryz.pinned.checked.prog.funcs[f]?=some fn):
 false=Tryz.pinned.checked.prog.looks []∧∀ (j:Nat) t,fn.params[j]?=some t→Tryz.pinned.checked.prog.wantsStandIn t=false:=by
 obtain rfl:f=3:=Option.some.inj ((show Tryz.prog.funcNamed Rows.fnExactPathReportRow.func=some 3 by kernel_rfl).symm.trans hf) |>.symm
 obtain rfl:fn=Tryz.f3:=(Option.some.inj (Tryz.func3.symm.trans hfn)).symm
 refine ⟨by kernel_rfl,fun j t ht=>?_⟩
 rw [Tryz.params3] at ht
 have hm:=Array.mem_of_getElem? ht
 have hall:∀ t∈([38,2,35,2]:List Nat),Tryz.prog.wantsStandIn t=false:=by
  intro t ht
  simp only [List.mem_cons,List.mem_nil_iff,or_false] at ht
  rcases ht with rfl | rfl | rfl | rfl <;> kernel_rfl
 exact hall t (by simpa using hm)
theorem proved:Rows.FnExactPathReportCardSaid:=
 Claim7.holds_tied_plain_at .later [] _ _ _ _ said (fun _ h=>by cases h) (by kernel_rfl) (fun _ h=>by cases h) fnExactPathReport_row_tie rfl ⟨rfl,rfl⟩ (by kernel_rfl) rfl plain pf_goes
end Go.Proofs.YtegkebdjikhgmaaGreatDoor.fnExactPathReport
