/- The laws' own helpers: what they return. Printed by my lawgen.py. No program in sight. -/
import Derived.Test.YtjimamifmpbhgaaGreatDoorPvF1
import Derived.Test.YtjimamifmpbhgaaGreatDoorPgF
namespace Go.Proofs.YtjimamifmpbhgaaGreatDoor
set_option linter.unusedSimpArgs false
set_option linter.unusedVariables false
theorem to_Pin {N:Nat} (hN:4000000≤N) (x:DPin) (hs:(x.1.size<4000000)) (u:Unit):F_23 N (x,u)=some (x,()):=by
 unfold F_23
 rfl
theorem q802 {N:Nat} (hN:4000000≤N) (x:List DPin) (hs:x.length<4000000∧∀ e0∈x,(e0.1.size<4000000)) (u:Unit):F_24 N (x,u)=some (x,()):=by
 unfold F_24
 have hl:=hs.1
 refine (q66 hl).trans ?_
 exact q111 _ (fun e=>F_23 N (e,())) (fun e he=>to_Pin hN e (hs.2 e he) ()) hl hN
theorem q75 {N:Nat} (hN:4000000≤N) (x:List (Int)) (hs:x.length<4000000) (u:Unit):F_25 N (x,u)=some (x,()):=by
 unfold F_25
 have hl:=hs
 refine (q66 hl).trans ?_
 exact q665 _ hl hN
theorem q777 {N:Nat} (hN:4000000≤N) (x:DTable) (hs:(x.1.length<4000000)∧(x.2.1.length<4000000)∧(x.2.2.1.length<4000000)) (u:Unit):F_26 N (x,u)=some (x,()):=by
 unfold F_26
 refine (q23 (q75 hN x.1 (hs.1) ())).trans ?_
 refine (q23 (q75 hN x.2.1 (hs.2.1) ())).trans ?_
 refine (q23 (q75 hN x.2.2.1 (hs.2.2) ())).trans ?_
 rfl
theorem q489 {N:Nat} (hN:4000000≤N) (x:List DTable) (hs:x.length<4000000∧∀ e0∈x,(e0.1.length<4000000)∧(e0.2.1.length<4000000)∧(e0.2.2.1.length<4000000)) (u:Unit):F_27 N (x,u)=some (x,()):=by
 unfold F_27
 have hl:=hs.1
 refine (q66 hl).trans ?_
 exact q111 _ (fun e=>F_26 N (e,())) (fun e he=>q777 hN e (hs.2 e he) ()) hl hN
theorem to_Arc {N:Nat} (hN:4000000≤N) (x:DArc) (hs:(x.2.2.2.2.1.length<4000000∧∀ e0∈x.2.2.2.2.1,(e0.1.length<4000000)∧(e0.2.1.length<4000000)∧(e0.2.2.1.length<4000000))∧(x.2.2.2.2.2.1.length<4000000∧∀ e0∈x.2.2.2.2.2.1,(e0.1.length<4000000)∧(e0.2.1.length<4000000)∧(e0.2.2.1.length<4000000))) (u:Unit):F_28 N (x,u)=some (x,()):=by
 unfold F_28
 refine (q23 (q489 hN x.2.2.2.2.1 (hs.1) ())).trans ?_
 refine (q23 (q489 hN x.2.2.2.2.2.1 (hs.2) ())).trans ?_
 rfl
theorem q791 {N:Nat} (hN:4000000≤N) (x:List DArc) (hs:x.length<4000000∧∀ e0∈x,(e0.2.2.2.2.1.length<4000000∧∀ e1∈e0.2.2.2.2.1,(e1.1.length<4000000)∧(e1.2.1.length<4000000)∧(e1.2.2.1.length<4000000))∧(e0.2.2.2.2.2.1.length<4000000∧∀ e1∈e0.2.2.2.2.2.1,(e1.1.length<4000000)∧(e1.2.1.length<4000000)∧(e1.2.2.1.length<4000000))) (u:Unit):F_29 N (x,u)=some (x,()):=by
 unfold F_29
 have hl:=hs.1
 refine (q66 hl).trans ?_
 exact q111 _ (fun e=>F_28 N (e,())) (fun e he=>to_Arc hN e (hs.2 e he) ()) hl hN
theorem q809 {N:Nat} (hN:4000000≤N) (x:DCell) (hs:(x.1.size<4000000)∧(x.2.2.1.length<4000000∧∀ e0∈x.2.2.1,(e0.1.size<4000000))∧(x.2.2.2.1.length<4000000∧∀ e0∈x.2.2.2.1,(e0.2.2.2.2.1.length<4000000∧∀ e1∈e0.2.2.2.2.1,(e1.1.length<4000000)∧(e1.2.1.length<4000000)∧(e1.2.2.1.length<4000000))∧(e0.2.2.2.2.2.1.length<4000000∧∀ e1∈e0.2.2.2.2.2.1,(e1.1.length<4000000)∧(e1.2.1.length<4000000)∧(e1.2.2.1.length<4000000)))∧(x.2.2.2.2.1.length<4000000)) (u:Unit):F_30 N (x,u)=some (x,()):=by
 unfold F_30
 refine (q23 (q802 hN x.2.2.1 (hs.2.1) ())).trans ?_
 refine (q23 (q791 hN x.2.2.2.1 (hs.2.2.1) ())).trans ?_
 refine (q23 (q75 hN x.2.2.2.2.1 (hs.2.2.2) ())).trans ?_
 rfl
theorem q757 {N:Nat} (hN:4000000≤N) (x:List DCell) (hs:x.length<4000000∧∀ e0∈x,(e0.1.size<4000000)∧(e0.2.2.1.length<4000000∧∀ e1∈e0.2.2.1,(e1.1.size<4000000))∧(e0.2.2.2.1.length<4000000∧∀ e1∈e0.2.2.2.1,(e1.2.2.2.2.1.length<4000000∧∀ e2∈e1.2.2.2.2.1,(e2.1.length<4000000)∧(e2.2.1.length<4000000)∧(e2.2.2.1.length<4000000))∧(e1.2.2.2.2.2.1.length<4000000∧∀ e2∈e1.2.2.2.2.2.1,(e2.1.length<4000000)∧(e2.2.1.length<4000000)∧(e2.2.2.1.length<4000000)))∧(e0.2.2.2.2.1.length<4000000)) (u:Unit):F_31 N (x,u)=some (x,()):=by
 unfold F_31
 have hl:=hs.1
 refine (q66 hl).trans ?_
 exact q111 _ (fun e=>F_30 N (e,())) (fun e he=>q809 hN e (hs.2 e he) ()) hl hN
theorem q638 {N:Nat} (hN:4000000≤N) (x:DLibrary) (hs:(x.1.length<4000000∧∀ e0∈x.1,(e0.1.size<4000000)∧(e0.2.2.1.length<4000000∧∀ e1∈e0.2.2.1,(e1.1.size<4000000))∧(e0.2.2.2.1.length<4000000∧∀ e1∈e0.2.2.2.1,(e1.2.2.2.2.1.length<4000000∧∀ e2∈e1.2.2.2.2.1,(e2.1.length<4000000)∧(e2.2.1.length<4000000)∧(e2.2.2.1.length<4000000))∧(e1.2.2.2.2.2.1.length<4000000∧∀ e2∈e1.2.2.2.2.2.1,(e2.1.length<4000000)∧(e2.2.1.length<4000000)∧(e2.2.2.1.length<4000000)))∧(e0.2.2.2.2.1.length<4000000))) (u:Unit):F_32 N (x,u)=some (x,()):=by
 unfold F_32
 refine (q23 (q757 hN x.1 (hs) ())).trans ?_
 rfl
theorem q581 {N:Nat} (hN:4000000≤N) (x:DInstance) (hs:(x.1.size<4000000)∧(x.2.2.1.length<4000000)) (u:Unit):F_33 N (x,u)=some (x,()):=by
 unfold F_33
 refine (q23 (q75 hN x.2.2.1 (hs.2) ())).trans ?_
 rfl
theorem q520 {N:Nat} (hN:4000000≤N) (x:List DInstance) (hs:x.length<4000000∧∀ e0∈x,(e0.1.size<4000000)∧(e0.2.2.1.length<4000000)) (u:Unit):F_34 N (x,u)=some (x,()):=by
 unfold F_34
 have hl:=hs.1
 refine (q66 hl).trans ?_
 exact q111 _ (fun e=>F_33 N (e,())) (fun e he=>q581 hN e (hs.2 e he) ()) hl hN
theorem q655 {N:Nat} (hN:4000000≤N) (x:List (ByteArray)) (hs:x.length<4000000∧∀ e0∈x,e0.size<4000000) (u:Unit):F_35 N (x,u)=some (x,()):=by
 unfold F_35
 have hl:=hs.1
 refine (q66 hl).trans ?_
 exact q665 _ hl hN
theorem q804 {N:Nat} (hN:4000000≤N) (x:DPort) (hs:(x.1.size<4000000)) (u:Unit):F_36 N (x,u)=some (x,()):=by
 unfold F_36
 rfl
theorem q772 {N:Nat} (hN:4000000≤N) (x:List DPort) (hs:x.length<4000000∧∀ e0∈x,(e0.1.size<4000000)) (u:Unit):F_37 N (x,u)=some (x,()):=by
 unfold F_37
 have hl:=hs.1
 refine (q66 hl).trans ?_
 exact q111 _ (fun e=>F_36 N (e,())) (fun e he=>q804 hN e (hs.2 e he) ()) hl hN
theorem q736 {N:Nat} (hN:4000000≤N) (x:DDesign) (hs:(x.1.length<4000000∧∀ e0∈x.1,(e0.1.size<4000000)∧(e0.2.2.1.length<4000000))∧(x.2.1.length<4000000∧∀ e0∈x.2.1,e0.size<4000000)∧(x.2.2.1.length<4000000∧∀ e0∈x.2.2.1,(e0.1.size<4000000))) (u:Unit):F_38 N (x,u)=some (x,()):=by
 unfold F_38
 refine (q23 (q520 hN x.1 (hs.1) ())).trans ?_
 refine (q23 (q655 hN x.2.1 (hs.2.1) ())).trans ?_
 refine (q23 (q772 hN x.2.2.1 (hs.2.2) ())).trans ?_
 rfl
theorem q817 {N:Nat} (hN:4000000≤N) (x:DWire) (hs:(x.1.length<4000000)∧(x.2.1.length<4000000)∧(x.2.2.1.length<4000000)∧(x.2.2.2.1.length<4000000)) (u:Unit):F_39 N (x,u)=some (x,()):=by
 unfold F_39
 refine (q23 (q75 hN x.1 (hs.1) ())).trans ?_
 refine (q23 (q75 hN x.2.1 (hs.2.1) ())).trans ?_
 refine (q23 (q75 hN x.2.2.1 (hs.2.2.1) ())).trans ?_
 refine (q23 (q75 hN x.2.2.2.1 (hs.2.2.2) ())).trans ?_
 rfl
theorem q758 {N:Nat} (hN:4000000≤N) (x:List DWire) (hs:x.length<4000000∧∀ e0∈x,(e0.1.length<4000000)∧(e0.2.1.length<4000000)∧(e0.2.2.1.length<4000000)∧(e0.2.2.2.1.length<4000000)) (u:Unit):F_40 N (x,u)=some (x,()):=by
 unfold F_40
 have hl:=hs.1
 refine (q66 hl).trans ?_
 exact q111 _ (fun e=>F_39 N (e,())) (fun e he=>q817 hN e (hs.2 e he) ()) hl hN
theorem q769 {N:Nat} (hN:4000000≤N) (x:DBlock) (hs:((x.1.1.length<4000000∧∀ e0∈x.1.1,(e0.1.size<4000000)∧(e0.2.2.1.length<4000000∧∀ e1∈e0.2.2.1,(e1.1.size<4000000))∧(e0.2.2.2.1.length<4000000∧∀ e1∈e0.2.2.2.1,(e1.2.2.2.2.1.length<4000000∧∀ e2∈e1.2.2.2.2.1,(e2.1.length<4000000)∧(e2.2.1.length<4000000)∧(e2.2.2.1.length<4000000))∧(e1.2.2.2.2.2.1.length<4000000∧∀ e2∈e1.2.2.2.2.2.1,(e2.1.length<4000000)∧(e2.2.1.length<4000000)∧(e2.2.2.1.length<4000000)))∧(e0.2.2.2.2.1.length<4000000)))∧((x.2.1.1.length<4000000∧∀ e0∈x.2.1.1,(e0.1.size<4000000)∧(e0.2.2.1.length<4000000))∧(x.2.1.2.1.length<4000000∧∀ e0∈x.2.1.2.1,e0.size<4000000)∧(x.2.1.2.2.1.length<4000000∧∀ e0∈x.2.1.2.2.1,(e0.1.size<4000000)))∧(x.2.2.1.length<4000000∧∀ e0∈x.2.2.1,(e0.1.length<4000000)∧(e0.2.1.length<4000000)∧(e0.2.2.1.length<4000000)∧(e0.2.2.2.1.length<4000000))) (u:Unit):F_41 N (x,u)=some (x,()):=by
 unfold F_41
 refine (q23 (q638 hN x.1 (hs.1) ())).trans ?_
 refine (q23 (q736 hN x.2.1 (hs.2.1) ())).trans ?_
 refine (q23 (q758 hN x.2.2.1 (hs.2.2) ())).trans ?_
 rfl
theorem q740 {N:Nat} (hN:4000000≤N) (x:DCorner) (hs:(x.1.size<4000000)) (u:Unit):F_42 N (x,u)=some (x,()):=by
 unfold F_42
 rfl
theorem q727 {N:Nat} (hN:4000000≤N) (x:DSpan) (hs:True) (u:Unit):F_43 N (x,u)=some (x,()):=by
 unfold F_43
 rfl
theorem q743 {N:Nat} (hN:4000000≤N) (x:DSource) (hs:True) (u:Unit):F_44 N (x,u)=some (x,()):=by
 unfold F_44
 refine (q23 (q727 hN x.2.1 trivial ())).trans ?_
 refine (q23 (q727 hN x.2.2.1 trivial ())).trans ?_
 rfl
theorem q645 {N:Nat} (hN:4000000≤N) (x:List DSource) (hs:x.length<4000000) (u:Unit):F_45 N (x,u)=some (x,()):=by
 unfold F_45
 have hl:=hs
 refine (q66 hl).trans ?_
 exact q111 _ (fun e=>F_44 N (e,())) (fun e he=>q743 hN e trivial ()) hl hN
theorem to_Job {N:Nat} (hN:4000000≤N) (x:DJob) (hs:(((x.1.1.1.length<4000000∧∀ e0∈x.1.1.1,(e0.1.size<4000000)∧(e0.2.2.1.length<4000000∧∀ e1∈e0.2.2.1,(e1.1.size<4000000))∧(e0.2.2.2.1.length<4000000∧∀ e1∈e0.2.2.2.1,(e1.2.2.2.2.1.length<4000000∧∀ e2∈e1.2.2.2.2.1,(e2.1.length<4000000)∧(e2.2.1.length<4000000)∧(e2.2.2.1.length<4000000))∧(e1.2.2.2.2.2.1.length<4000000∧∀ e2∈e1.2.2.2.2.2.1,(e2.1.length<4000000)∧(e2.2.1.length<4000000)∧(e2.2.2.1.length<4000000)))∧(e0.2.2.2.2.1.length<4000000)))∧((x.1.2.1.1.length<4000000∧∀ e0∈x.1.2.1.1,(e0.1.size<4000000)∧(e0.2.2.1.length<4000000))∧(x.1.2.1.2.1.length<4000000∧∀ e0∈x.1.2.1.2.1,e0.size<4000000)∧(x.1.2.1.2.2.1.length<4000000∧∀ e0∈x.1.2.1.2.2.1,(e0.1.size<4000000)))∧(x.1.2.2.1.length<4000000∧∀ e0∈x.1.2.2.1,(e0.1.length<4000000)∧(e0.2.1.length<4000000)∧(e0.2.2.1.length<4000000)∧(e0.2.2.2.1.length<4000000)))∧((x.2.1.1.size<4000000))∧(x.2.2.1.length<4000000)∧(x.2.2.2.1.length<4000000)) (u:Unit):F_46 N (x,u)=some (x,()):=by
 unfold F_46
 refine (q23 (q769 hN x.1 (hs.1) ())).trans ?_
 refine (q23 (q740 hN x.2.1 (hs.2.1) ())).trans ?_
 refine (q23 (q75 hN x.2.2.1 (hs.2.2.1) ())).trans ?_
 refine (q23 (q645 hN x.2.2.2.1 (hs.2.2.2) ())).trans ?_
 rfl
theorem q185 {N:Nat} (hN:4000000≤N) (x:DPath) (hs:(x.2.1.length<4000000)) (u:Unit):F_47 N (x,u)=some (x,()):=by
 unfold F_47
 refine (q23 (q75 hN x.2.1 (hs) ())).trans ?_
 rfl
theorem q50 {N:Nat} (hN:4000000≤N) (x y:List (Int)) (hs:x.length<4000000) (u:Unit):F_235 N (x,y,u)=some (dec (x=y),()):=by
 unfold F_235
 exact q484 (hs) hN
theorem eq_Pin {N:Nat} (hN:4000000≤N) (x y:DPin) (hs:(x.1.size<4000000)) (u:Unit):F_236 N (x,y,u)=some (dec (x=y),()):=by
 refine Ret.tells ?_
 unfold F_236
 obtain ⟨x0,x1,x2,x3,ux⟩:=x
 obtain ⟨y0,y1,y2,y3,uy⟩:=y
 dsimp only
 refine Ret.ifnd ?_ ?_ <;> intro g0
 ·exact Ret.ret (q6.2 (fun h=>g0 (congrArg (fun z=>z.1) h)))
 refine Ret.ifnd ?_ ?_ <;> intro g1
 ·exact Ret.ret (q6.2 (fun h=>g1 (congrArg (fun z=>z.2.1) h)))
 refine Ret.ifnd ?_ ?_ <;> intro g2
 ·exact Ret.ret (q6.2 (fun h=>g2 (congrArg (fun z=>z.2.2.1) h)))
 refine Ret.bif ?_ ?_ <;> intro g3
 ·exact Ret.ret (q6.2 fun h=>by have e:=congrArg (fun z=>z.2.2.2.1) h; dsimp only at e; subst e; simp at g3)
 have g3:x3=y3:=by simpa using g3
 subst g0 g1 g2 g3
 exact Ret.ret (q15.2 rfl)
theorem q810 {N:Nat} (hN:4000000≤N) (x y:List DPin) (hs:x.length<4000000∧∀ e0∈x,(e0.1.size<4000000)) (u:Unit):F_237 N (x,y,u)=some (dec (x=y),()):=by
 unfold F_237
 exact q94 (fun e f=>F_236 N (e,f,())) (fun e he f _=>eq_Pin hN e f (hs.2 e he) ()) (hs.1) hN
theorem q785 {N:Nat} (hN:4000000≤N) (x y:DTable) (hs:(x.1.length<4000000)∧(x.2.1.length<4000000)∧(x.2.2.1.length<4000000)) (u:Unit):F_238 N (x,y,u)=some (dec (x=y),()):=by
 refine Ret.tells ?_
 unfold F_238
 obtain ⟨x0,x1,x2,ux⟩:=x
 obtain ⟨y0,y1,y2,uy⟩:=y
 dsimp only
 refine Ret.call (q50 hN x0 y0 (hs.1) ()) (Ret.ifnc ?_ ?_) <;> intro g0
 ·exact Ret.ret (q6.2 (fun h=>g0 (congrArg (fun z=>z.1) h)))
 refine Ret.call (q50 hN x1 y1 (hs.2.1) ()) (Ret.ifnc ?_ ?_) <;> intro g1
 ·exact Ret.ret (q6.2 (fun h=>g1 (congrArg (fun z=>z.2.1) h)))
 refine Ret.call (q50 hN x2 y2 (hs.2.2) ()) (Ret.ifnc ?_ ?_) <;> intro g2
 ·exact Ret.ret (q6.2 (fun h=>g2 (congrArg (fun z=>z.2.2.1) h)))
 subst g0 g1 g2
 exact Ret.ret (q15.2 rfl)
theorem q479 {N:Nat} (hN:4000000≤N) (x y:List DTable) (hs:x.length<4000000∧∀ e0∈x,(e0.1.length<4000000)∧(e0.2.1.length<4000000)∧(e0.2.2.1.length<4000000)) (u:Unit):F_239 N (x,y,u)=some (dec (x=y),()):=by
 unfold F_239
 exact q94 (fun e f=>F_238 N (e,f,())) (fun e he f _=>q785 hN e f (hs.2 e he) ()) (hs.1) hN
theorem eq_Arc {N:Nat} (hN:4000000≤N) (x y:DArc) (hs:(x.2.2.2.2.1.length<4000000∧∀ e0∈x.2.2.2.2.1,(e0.1.length<4000000)∧(e0.2.1.length<4000000)∧(e0.2.2.1.length<4000000))∧(x.2.2.2.2.2.1.length<4000000∧∀ e0∈x.2.2.2.2.2.1,(e0.1.length<4000000)∧(e0.2.1.length<4000000)∧(e0.2.2.1.length<4000000))) (u:Unit):F_240 N (x,y,u)=some (dec (x=y),()):=by
 refine Ret.tells ?_
 unfold F_240
 obtain ⟨x0,x1,x2,x3,x4,x5,ux⟩:=x
 obtain ⟨y0,y1,y2,y3,y4,y5,uy⟩:=y
 dsimp only
 refine Ret.ifnd ?_ ?_ <;> intro g0
 ·exact Ret.ret (q6.2 (fun h=>g0 (congrArg (fun z=>z.1) h)))
 refine Ret.ifnd ?_ ?_ <;> intro g1
 ·exact Ret.ret (q6.2 (fun h=>g1 (congrArg (fun z=>z.2.1) h)))
 refine Ret.ifnd ?_ ?_ <;> intro g2
 ·exact Ret.ret (q6.2 (fun h=>g2 (congrArg (fun z=>z.2.2.1) h)))
 refine Ret.ifnd ?_ ?_ <;> intro g3
 ·exact Ret.ret (q6.2 (fun h=>g3 (congrArg (fun z=>z.2.2.2.1) h)))
 refine Ret.call (q479 hN x4 y4 (hs.1) ()) (Ret.ifnc ?_ ?_) <;> intro g4
 ·exact Ret.ret (q6.2 (fun h=>g4 (congrArg (fun z=>z.2.2.2.2.1) h)))
 refine Ret.call (q479 hN x5 y5 (hs.2) ()) (Ret.ifnc ?_ ?_) <;> intro g5
 ·exact Ret.ret (q6.2 (fun h=>g5 (congrArg (fun z=>z.2.2.2.2.2.1) h)))
 subst g0 g1 g2 g3 g4 g5
 exact Ret.ret (q15.2 rfl)
theorem q820 {N:Nat} (hN:4000000≤N) (x y:List DArc) (hs:x.length<4000000∧∀ e0∈x,(e0.2.2.2.2.1.length<4000000∧∀ e1∈e0.2.2.2.2.1,(e1.1.length<4000000)∧(e1.2.1.length<4000000)∧(e1.2.2.1.length<4000000))∧(e0.2.2.2.2.2.1.length<4000000∧∀ e1∈e0.2.2.2.2.2.1,(e1.1.length<4000000)∧(e1.2.1.length<4000000)∧(e1.2.2.1.length<4000000))) (u:Unit):F_241 N (x,y,u)=some (dec (x=y),()):=by
 unfold F_241
 exact q94 (fun e f=>F_240 N (e,f,())) (fun e he f _=>eq_Arc hN e f (hs.2 e he) ()) (hs.1) hN
theorem q814 {N:Nat} (hN:4000000≤N) (x y:DCell) (hs:(x.1.size<4000000)∧(x.2.2.1.length<4000000∧∀ e0∈x.2.2.1,(e0.1.size<4000000))∧(x.2.2.2.1.length<4000000∧∀ e0∈x.2.2.2.1,(e0.2.2.2.2.1.length<4000000∧∀ e1∈e0.2.2.2.2.1,(e1.1.length<4000000)∧(e1.2.1.length<4000000)∧(e1.2.2.1.length<4000000))∧(e0.2.2.2.2.2.1.length<4000000∧∀ e1∈e0.2.2.2.2.2.1,(e1.1.length<4000000)∧(e1.2.1.length<4000000)∧(e1.2.2.1.length<4000000)))∧(x.2.2.2.2.1.length<4000000)) (u:Unit):F_242 N (x,y,u)=some (dec (x=y),()):=by
 refine Ret.tells ?_
 unfold F_242
 obtain ⟨x0,x1,x2,x3,x4,x5,x6,ux⟩:=x
 obtain ⟨y0,y1,y2,y3,y4,y5,y6,uy⟩:=y
 dsimp only
 refine Ret.ifnd ?_ ?_ <;> intro g0
 ·exact Ret.ret (q6.2 (fun h=>g0 (congrArg (fun z=>z.1) h)))
 refine Ret.ifnd ?_ ?_ <;> intro g1
 ·exact Ret.ret (q6.2 (fun h=>g1 (congrArg (fun z=>z.2.1) h)))
 refine Ret.call (q810 hN x2 y2 (hs.2.1) ()) (Ret.ifnc ?_ ?_) <;> intro g2
 ·exact Ret.ret (q6.2 (fun h=>g2 (congrArg (fun z=>z.2.2.1) h)))
 refine Ret.call (q820 hN x3 y3 (hs.2.2.1) ()) (Ret.ifnc ?_ ?_) <;> intro g3
 ·exact Ret.ret (q6.2 (fun h=>g3 (congrArg (fun z=>z.2.2.2.1) h)))
 refine Ret.call (q50 hN x4 y4 (hs.2.2.2) ()) (Ret.ifnc ?_ ?_) <;> intro g4
 ·exact Ret.ret (q6.2 (fun h=>g4 (congrArg (fun z=>z.2.2.2.2.1) h)))
 refine Ret.ifnd ?_ ?_ <;> intro g5
 ·exact Ret.ret (q6.2 (fun h=>g5 (congrArg (fun z=>z.2.2.2.2.2.1) h)))
 refine Ret.ifnd ?_ ?_ <;> intro g6
 ·exact Ret.ret (q6.2 (fun h=>g6 (congrArg (fun z=>z.2.2.2.2.2.2.1) h)))
 subst g0 g1 g2 g3 g4 g5 g6
 exact Ret.ret (q15.2 rfl)
theorem q746 {N:Nat} (hN:4000000≤N) (x y:List DCell) (hs:x.length<4000000∧∀ e0∈x,(e0.1.size<4000000)∧(e0.2.2.1.length<4000000∧∀ e1∈e0.2.2.1,(e1.1.size<4000000))∧(e0.2.2.2.1.length<4000000∧∀ e1∈e0.2.2.2.1,(e1.2.2.2.2.1.length<4000000∧∀ e2∈e1.2.2.2.2.1,(e2.1.length<4000000)∧(e2.2.1.length<4000000)∧(e2.2.2.1.length<4000000))∧(e1.2.2.2.2.2.1.length<4000000∧∀ e2∈e1.2.2.2.2.2.1,(e2.1.length<4000000)∧(e2.2.1.length<4000000)∧(e2.2.2.1.length<4000000)))∧(e0.2.2.2.2.1.length<4000000)) (u:Unit):F_243 N (x,y,u)=some (dec (x=y),()):=by
 unfold F_243
 exact q94 (fun e f=>F_242 N (e,f,())) (fun e he f _=>q814 hN e f (hs.2 e he) ()) (hs.1) hN
theorem q649 {N:Nat} (hN:4000000≤N) (x y:DLibrary) (hs:(x.1.length<4000000∧∀ e0∈x.1,(e0.1.size<4000000)∧(e0.2.2.1.length<4000000∧∀ e1∈e0.2.2.1,(e1.1.size<4000000))∧(e0.2.2.2.1.length<4000000∧∀ e1∈e0.2.2.2.1,(e1.2.2.2.2.1.length<4000000∧∀ e2∈e1.2.2.2.2.1,(e2.1.length<4000000)∧(e2.2.1.length<4000000)∧(e2.2.2.1.length<4000000))∧(e1.2.2.2.2.2.1.length<4000000∧∀ e2∈e1.2.2.2.2.2.1,(e2.1.length<4000000)∧(e2.2.1.length<4000000)∧(e2.2.2.1.length<4000000)))∧(e0.2.2.2.2.1.length<4000000))) (u:Unit):F_244 N (x,y,u)=some (dec (x=y),()):=by
 refine Ret.tells ?_
 unfold F_244
 obtain ⟨x0,ux⟩:=x
 obtain ⟨y0,uy⟩:=y
 dsimp only
 refine Ret.call (q746 hN x0 y0 (hs) ()) (Ret.ifnc ?_ ?_) <;> intro g0
 ·exact Ret.ret (q6.2 (fun h=>g0 (congrArg (fun z=>z.1) h)))
 subst g0
 exact Ret.ret (q15.2 rfl)
theorem q590 {N:Nat} (hN:4000000≤N) (x y:DInstance) (hs:(x.1.size<4000000)∧(x.2.2.1.length<4000000)) (u:Unit):F_245 N (x,y,u)=some (dec (x=y),()):=by
 refine Ret.tells ?_
 unfold F_245
 obtain ⟨x0,x1,x2,ux⟩:=x
 obtain ⟨y0,y1,y2,uy⟩:=y
 dsimp only
 refine Ret.ifnd ?_ ?_ <;> intro g0
 ·exact Ret.ret (q6.2 (fun h=>g0 (congrArg (fun z=>z.1) h)))
 refine Ret.ifnd ?_ ?_ <;> intro g1
 ·exact Ret.ret (q6.2 (fun h=>g1 (congrArg (fun z=>z.2.1) h)))
 refine Ret.call (q50 hN x2 y2 (hs.2) ()) (Ret.ifnc ?_ ?_) <;> intro g2
 ·exact Ret.ret (q6.2 (fun h=>g2 (congrArg (fun z=>z.2.2.1) h)))
 subst g0 g1 g2
 exact Ret.ret (q15.2 rfl)
theorem q518 {N:Nat} (hN:4000000≤N) (x y:List DInstance) (hs:x.length<4000000∧∀ e0∈x,(e0.1.size<4000000)∧(e0.2.2.1.length<4000000)) (u:Unit):F_246 N (x,y,u)=some (dec (x=y),()):=by
 unfold F_246
 exact q94 (fun e f=>F_245 N (e,f,())) (fun e he f _=>q590 hN e f (hs.2 e he) ()) (hs.1) hN
theorem q647 {N:Nat} (hN:4000000≤N) (x y:List (ByteArray)) (hs:x.length<4000000∧∀ e0∈x,e0.size<4000000) (u:Unit):F_247 N (x,y,u)=some (dec (x=y),()):=by
 unfold F_247
 exact q484 (hs.1) hN
theorem q815 {N:Nat} (hN:4000000≤N) (x y:DPort) (hs:(x.1.size<4000000)) (u:Unit):F_248 N (x,y,u)=some (dec (x=y),()):=by
 refine Ret.tells ?_
 unfold F_248
 obtain ⟨x0,x1,x2,ux⟩:=x
 obtain ⟨y0,y1,y2,uy⟩:=y
 dsimp only
 refine Ret.ifnd ?_ ?_ <;> intro g0
 ·exact Ret.ret (q6.2 (fun h=>g0 (congrArg (fun z=>z.1) h)))
 refine Ret.ifnd ?_ ?_ <;> intro g1
 ·exact Ret.ret (q6.2 (fun h=>g1 (congrArg (fun z=>z.2.1) h)))
 refine Ret.ifnd ?_ ?_ <;> intro g2
 ·exact Ret.ret (q6.2 (fun h=>g2 (congrArg (fun z=>z.2.2.1) h)))
 subst g0 g1 g2
 exact Ret.ret (q15.2 rfl)
theorem q759 {N:Nat} (hN:4000000≤N) (x y:List DPort) (hs:x.length<4000000∧∀ e0∈x,(e0.1.size<4000000)) (u:Unit):F_249 N (x,y,u)=some (dec (x=y),()):=by
 unfold F_249
 exact q94 (fun e f=>F_248 N (e,f,())) (fun e he f _=>q815 hN e f (hs.2 e he) ()) (hs.1) hN
theorem q739 {N:Nat} (hN:4000000≤N) (x y:DDesign) (hs:(x.1.length<4000000∧∀ e0∈x.1,(e0.1.size<4000000)∧(e0.2.2.1.length<4000000))∧(x.2.1.length<4000000∧∀ e0∈x.2.1,e0.size<4000000)∧(x.2.2.1.length<4000000∧∀ e0∈x.2.2.1,(e0.1.size<4000000))) (u:Unit):F_250 N (x,y,u)=some (dec (x=y),()):=by
 refine Ret.tells ?_
 unfold F_250
 obtain ⟨x0,x1,x2,ux⟩:=x
 obtain ⟨y0,y1,y2,uy⟩:=y
 dsimp only
 refine Ret.call (q518 hN x0 y0 (hs.1) ()) (Ret.ifnc ?_ ?_) <;> intro g0
 ·exact Ret.ret (q6.2 (fun h=>g0 (congrArg (fun z=>z.1) h)))
 refine Ret.call (q647 hN x1 y1 (hs.2.1) ()) (Ret.ifnc ?_ ?_) <;> intro g1
 ·exact Ret.ret (q6.2 (fun h=>g1 (congrArg (fun z=>z.2.1) h)))
 refine Ret.call (q759 hN x2 y2 (hs.2.2) ()) (Ret.ifnc ?_ ?_) <;> intro g2
 ·exact Ret.ret (q6.2 (fun h=>g2 (congrArg (fun z=>z.2.2.1) h)))
 subst g0 g1 g2
 exact Ret.ret (q15.2 rfl)
theorem q821 {N:Nat} (hN:4000000≤N) (x y:DWire) (hs:(x.1.length<4000000)∧(x.2.1.length<4000000)∧(x.2.2.1.length<4000000)∧(x.2.2.2.1.length<4000000)) (u:Unit):F_251 N (x,y,u)=some (dec (x=y),()):=by
 refine Ret.tells ?_
 unfold F_251
 obtain ⟨x0,x1,x2,x3,ux⟩:=x
 obtain ⟨y0,y1,y2,y3,uy⟩:=y
 dsimp only
 refine Ret.call (q50 hN x0 y0 (hs.1) ()) (Ret.ifnc ?_ ?_) <;> intro g0
 ·exact Ret.ret (q6.2 (fun h=>g0 (congrArg (fun z=>z.1) h)))
 refine Ret.call (q50 hN x1 y1 (hs.2.1) ()) (Ret.ifnc ?_ ?_) <;> intro g1
 ·exact Ret.ret (q6.2 (fun h=>g1 (congrArg (fun z=>z.2.1) h)))
 refine Ret.call (q50 hN x2 y2 (hs.2.2.1) ()) (Ret.ifnc ?_ ?_) <;> intro g2
 ·exact Ret.ret (q6.2 (fun h=>g2 (congrArg (fun z=>z.2.2.1) h)))
 refine Ret.call (q50 hN x3 y3 (hs.2.2.2) ()) (Ret.ifnc ?_ ?_) <;> intro g3
 ·exact Ret.ret (q6.2 (fun h=>g3 (congrArg (fun z=>z.2.2.2.1) h)))
 subst g0 g1 g2 g3
 exact Ret.ret (q15.2 rfl)
theorem q776 {N:Nat} (hN:4000000≤N) (x y:List DWire) (hs:x.length<4000000∧∀ e0∈x,(e0.1.length<4000000)∧(e0.2.1.length<4000000)∧(e0.2.2.1.length<4000000)∧(e0.2.2.2.1.length<4000000)) (u:Unit):F_252 N (x,y,u)=some (dec (x=y),()):=by
 unfold F_252
 exact q94 (fun e f=>F_251 N (e,f,())) (fun e he f _=>q821 hN e f (hs.2 e he) ()) (hs.1) hN
theorem q754 {N:Nat} (hN:4000000≤N) (x y:DBlock) (hs:((x.1.1.length<4000000∧∀ e0∈x.1.1,(e0.1.size<4000000)∧(e0.2.2.1.length<4000000∧∀ e1∈e0.2.2.1,(e1.1.size<4000000))∧(e0.2.2.2.1.length<4000000∧∀ e1∈e0.2.2.2.1,(e1.2.2.2.2.1.length<4000000∧∀ e2∈e1.2.2.2.2.1,(e2.1.length<4000000)∧(e2.2.1.length<4000000)∧(e2.2.2.1.length<4000000))∧(e1.2.2.2.2.2.1.length<4000000∧∀ e2∈e1.2.2.2.2.2.1,(e2.1.length<4000000)∧(e2.2.1.length<4000000)∧(e2.2.2.1.length<4000000)))∧(e0.2.2.2.2.1.length<4000000)))∧((x.2.1.1.length<4000000∧∀ e0∈x.2.1.1,(e0.1.size<4000000)∧(e0.2.2.1.length<4000000))∧(x.2.1.2.1.length<4000000∧∀ e0∈x.2.1.2.1,e0.size<4000000)∧(x.2.1.2.2.1.length<4000000∧∀ e0∈x.2.1.2.2.1,(e0.1.size<4000000)))∧(x.2.2.1.length<4000000∧∀ e0∈x.2.2.1,(e0.1.length<4000000)∧(e0.2.1.length<4000000)∧(e0.2.2.1.length<4000000)∧(e0.2.2.2.1.length<4000000))) (u:Unit):F_253 N (x,y,u)=some (dec (x=y),()):=by
 refine Ret.tells ?_
 unfold F_253
 obtain ⟨x0,x1,x2,ux⟩:=x
 obtain ⟨y0,y1,y2,uy⟩:=y
 dsimp only
 refine Ret.call (q649 hN x0 y0 (hs.1) ()) (Ret.ifnc ?_ ?_) <;> intro g0
 ·exact Ret.ret (q6.2 (fun h=>g0 (congrArg (fun z=>z.1) h)))
 refine Ret.call (q739 hN x1 y1 (hs.2.1) ()) (Ret.ifnc ?_ ?_) <;> intro g1
 ·exact Ret.ret (q6.2 (fun h=>g1 (congrArg (fun z=>z.2.1) h)))
 refine Ret.call (q776 hN x2 y2 (hs.2.2) ()) (Ret.ifnc ?_ ?_) <;> intro g2
 ·exact Ret.ret (q6.2 (fun h=>g2 (congrArg (fun z=>z.2.2.1) h)))
 subst g0 g1 g2
 exact Ret.ret (q15.2 rfl)
theorem q682 {N:Nat} (hN:4000000≤N) (x y:DCorner) (hs:(x.1.size<4000000)) (u:Unit):F_254 N (x,y,u)=some (dec (x=y),()):=by
 refine Ret.tells ?_
 unfold F_254
 obtain ⟨x0,x1,x2,x3,x4,ux⟩:=x
 obtain ⟨y0,y1,y2,y3,y4,uy⟩:=y
 dsimp only
 refine Ret.ifnd ?_ ?_ <;> intro g0
 ·exact Ret.ret (q6.2 (fun h=>g0 (congrArg (fun z=>z.1) h)))
 refine Ret.ifnd ?_ ?_ <;> intro g1
 ·exact Ret.ret (q6.2 (fun h=>g1 (congrArg (fun z=>z.2.1) h)))
 refine Ret.ifnd ?_ ?_ <;> intro g2
 ·exact Ret.ret (q6.2 (fun h=>g2 (congrArg (fun z=>z.2.2.1) h)))
 refine Ret.ifnd ?_ ?_ <;> intro g3
 ·exact Ret.ret (q6.2 (fun h=>g3 (congrArg (fun z=>z.2.2.2.1) h)))
 refine Ret.ifnd ?_ ?_ <;> intro g4
 ·exact Ret.ret (q6.2 (fun h=>g4 (congrArg (fun z=>z.2.2.2.2.1) h)))
 subst g0 g1 g2 g3 g4
 exact Ret.ret (q15.2 rfl)
theorem q675 {N:Nat} (hN:4000000≤N) (x y:DSpan) (hs:True) (u:Unit):F_255 N (x,y,u)=some (dec (x=y),()):=by
 refine Ret.tells ?_
 unfold F_255
 obtain ⟨x0,x1,ux⟩:=x
 obtain ⟨y0,y1,uy⟩:=y
 dsimp only
 refine Ret.ifnd ?_ ?_ <;> intro g0
 ·exact Ret.ret (q6.2 (fun h=>g0 (congrArg (fun z=>z.1) h)))
 refine Ret.ifnd ?_ ?_ <;> intro g1
 ·exact Ret.ret (q6.2 (fun h=>g1 (congrArg (fun z=>z.2.1) h)))
 subst g0 g1
 exact Ret.ret (q15.2 rfl)
theorem q691 {N:Nat} (hN:4000000≤N) (x y:DSource) (hs:True) (u:Unit):F_256 N (x,y,u)=some (dec (x=y),()):=by
 refine Ret.tells ?_
 unfold F_256
 obtain ⟨x0,x1,x2,ux⟩:=x
 obtain ⟨y0,y1,y2,uy⟩:=y
 dsimp only
 refine Ret.ifnd ?_ ?_ <;> intro g0
 ·exact Ret.ret (q6.2 (fun h=>g0 (congrArg (fun z=>z.1) h)))
 refine Ret.call (q675 hN x1 y1 trivial ()) (Ret.ifnc ?_ ?_) <;> intro g1
 ·exact Ret.ret (q6.2 (fun h=>g1 (congrArg (fun z=>z.2.1) h)))
 refine Ret.call (q675 hN x2 y2 trivial ()) (Ret.ifnc ?_ ?_) <;> intro g2
 ·exact Ret.ret (q6.2 (fun h=>g2 (congrArg (fun z=>z.2.2.1) h)))
 subst g0 g1 g2
 exact Ret.ret (q15.2 rfl)
theorem q627 {N:Nat} (hN:4000000≤N) (x y:List DSource) (hs:x.length<4000000) (u:Unit):F_257 N (x,y,u)=some (dec (x=y),()):=by
 unfold F_257
 exact q94 (fun e f=>F_256 N (e,f,())) (fun e he f _=>q691 hN e f trivial ()) (hs) hN
theorem eq_Job {N:Nat} (hN:4000000≤N) (x y:DJob) (hs:(((x.1.1.1.length<4000000∧∀ e0∈x.1.1.1,(e0.1.size<4000000)∧(e0.2.2.1.length<4000000∧∀ e1∈e0.2.2.1,(e1.1.size<4000000))∧(e0.2.2.2.1.length<4000000∧∀ e1∈e0.2.2.2.1,(e1.2.2.2.2.1.length<4000000∧∀ e2∈e1.2.2.2.2.1,(e2.1.length<4000000)∧(e2.2.1.length<4000000)∧(e2.2.2.1.length<4000000))∧(e1.2.2.2.2.2.1.length<4000000∧∀ e2∈e1.2.2.2.2.2.1,(e2.1.length<4000000)∧(e2.2.1.length<4000000)∧(e2.2.2.1.length<4000000)))∧(e0.2.2.2.2.1.length<4000000)))∧((x.1.2.1.1.length<4000000∧∀ e0∈x.1.2.1.1,(e0.1.size<4000000)∧(e0.2.2.1.length<4000000))∧(x.1.2.1.2.1.length<4000000∧∀ e0∈x.1.2.1.2.1,e0.size<4000000)∧(x.1.2.1.2.2.1.length<4000000∧∀ e0∈x.1.2.1.2.2.1,(e0.1.size<4000000)))∧(x.1.2.2.1.length<4000000∧∀ e0∈x.1.2.2.1,(e0.1.length<4000000)∧(e0.2.1.length<4000000)∧(e0.2.2.1.length<4000000)∧(e0.2.2.2.1.length<4000000)))∧((x.2.1.1.size<4000000))∧(x.2.2.1.length<4000000)∧(x.2.2.2.1.length<4000000)) (u:Unit):F_258 N (x,y,u)=some (dec (x=y),()):=by
 refine Ret.tells ?_
 unfold F_258
 obtain ⟨x0,x1,x2,x3,ux⟩:=x
 obtain ⟨y0,y1,y2,y3,uy⟩:=y
 dsimp only
 refine Ret.call (q754 hN x0 y0 (hs.1) ()) (Ret.ifnc ?_ ?_) <;> intro g0
 ·exact Ret.ret (q6.2 (fun h=>g0 (congrArg (fun z=>z.1) h)))
 refine Ret.call (q682 hN x1 y1 (hs.2.1) ()) (Ret.ifnc ?_ ?_) <;> intro g1
 ·exact Ret.ret (q6.2 (fun h=>g1 (congrArg (fun z=>z.2.1) h)))
 refine Ret.call (q50 hN x2 y2 (hs.2.2.1) ()) (Ret.ifnc ?_ ?_) <;> intro g2
 ·exact Ret.ret (q6.2 (fun h=>g2 (congrArg (fun z=>z.2.2.1) h)))
 refine Ret.call (q627 hN x3 y3 (hs.2.2.2) ()) (Ret.ifnc ?_ ?_) <;> intro g3
 ·exact Ret.ret (q6.2 (fun h=>g3 (congrArg (fun z=>z.2.2.2.1) h)))
 subst g0 g1 g2 g3
 exact Ret.ret (q15.2 rfl)
theorem q708 {N:Nat} (hN:4000000≤N) (x y:DPath) (hs:(x.2.1.length<4000000)) (u:Unit):F_259 N (x,y,u)=some (dec (x=y),()):=by
 refine Ret.tells ?_
 unfold F_259
 obtain ⟨x0,x1,x2,ux⟩:=x
 obtain ⟨y0,y1,y2,uy⟩:=y
 dsimp only
 refine Ret.ifnd ?_ ?_ <;> intro g0
 ·exact Ret.ret (q6.2 (fun h=>g0 (congrArg (fun z=>z.1) h)))
 refine Ret.call (q50 hN x1 y1 (hs) ()) (Ret.ifnc ?_ ?_) <;> intro g1
 ·exact Ret.ret (q6.2 (fun h=>g1 (congrArg (fun z=>z.2.1) h)))
 refine Ret.ifnd ?_ ?_ <;> intro g2
 ·exact Ret.ret (q6.2 (fun h=>g2 (congrArg (fun z=>z.2.2.1) h)))
 subst g0 g1 g2
 exact Ret.ret (q15.2 rfl)
end Go.Proofs.YtjimamifmpbhgaaGreatDoor
