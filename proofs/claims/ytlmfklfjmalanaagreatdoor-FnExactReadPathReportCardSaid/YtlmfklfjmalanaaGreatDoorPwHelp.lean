/- The laws' own helpers: what they return. Printed by my lawgen.py. No program in sight. -/
import Derived.Test.YtlmfklfjmalanaaGreatDoorPvF1
import Derived.Test.YtlmfklfjmalanaaGreatDoorPgF
namespace Go.Proofs.YtlmfklfjmalanaaGreatDoor
set_option linter.unusedSimpArgs false
set_option linter.unusedVariables false
theorem to_Pin{N:Nat}(hN:HN N)(x:DPin)(hs:(x.1.size<4000000))(u:Unit):F_22 N (x,u)=some (x,()):=by unfold F_22;rfl
theorem q946{N:Nat}(hN:HN N)(x:List DPin)(hs:x.length<4000000/\∀ e0∈x,(e0.1.size<4000000))(u:Unit):F_23 N (x,u)=some (x,()):=by unfold F_23;have hl:=hs.1;refine (q77 hl).trans ?_;exact q131 _ (fun e=>F_22 N (e,())) (fun e he=>to_Pin hN e (hs.2 e he) ()) hl hN
theorem q97{N:Nat}(hN:HN N)(x:List (Int))(hs:x.length<4000000)(u:Unit):F_24 N (x,u)=some (x,()):=by unfold F_24;have hl:=hs;refine (q77 hl).trans ?_;exact q814 _ hl hN
theorem q898{N:Nat}(hN:HN N)(x:DTable)(hs:(x.1.length<4000000)/\(x.2.1.length<4000000)/\(x.2.2.1.length<4000000))(u:Unit):F_25 N (x,u)=some (x,()):=by unfold F_25;refine (q27 (q97 hN x.1 (hs.1) ())).trans ?_;refine (q27 (q97 hN x.2.1 (hs.2.1) ())).trans ?_;refine (q27 (q97 hN x.2.2.1 (hs.2.2) ())).trans ?_;rfl
theorem q611{N:Nat}(hN:HN N)(x:List DTable)(hs:x.length<4000000/\∀ e0∈x,(e0.1.length<4000000)/\(e0.2.1.length<4000000)/\(e0.2.2.1.length<4000000))(u:Unit):F_26 N (x,u)=some (x,()):=by unfold F_26;have hl:=hs.1;refine (q77 hl).trans ?_;exact q131 _ (fun e=>F_25 N (e,())) (fun e he=>q898 hN e (hs.2 e he) ()) hl hN
theorem to_Arc{N:Nat}(hN:HN N)(x:DArc)(hs:(x.2.2.2.2.1.length<4000000/\∀ e0∈x.2.2.2.2.1,(e0.1.length<4000000)/\(e0.2.1.length<4000000)/\(e0.2.2.1.length<4000000))/\(x.2.2.2.2.2.1.length<4000000/\∀ e0∈x.2.2.2.2.2.1,(e0.1.length<4000000)/\(e0.2.1.length<4000000)/\(e0.2.2.1.length<4000000)))(u:Unit):F_27 N (x,u)=some (x,()):=by unfold F_27;refine (q27 (q611 hN x.2.2.2.2.1 (hs.1) ())).trans ?_;refine (q27 (q611 hN x.2.2.2.2.2.1 (hs.2) ())).trans ?_;rfl
theorem q950{N:Nat}(hN:HN N)(x:List DArc)(hs:x.length<4000000/\∀ e0∈x,(e0.2.2.2.2.1.length<4000000/\∀ e1∈e0.2.2.2.2.1,(e1.1.length<4000000)/\(e1.2.1.length<4000000)/\(e1.2.2.1.length<4000000))/\(e0.2.2.2.2.2.1.length<4000000/\∀ e1∈e0.2.2.2.2.2.1,(e1.1.length<4000000)/\(e1.2.1.length<4000000)/\(e1.2.2.1.length<4000000)))(u:Unit):F_28 N (x,u)=some (x,()):=by unfold F_28;have hl:=hs.1;refine (q77 hl).trans ?_;exact q131 _ (fun e=>F_27 N (e,())) (fun e he=>to_Arc hN e (hs.2 e he) ()) hl hN
theorem q959{N:Nat}(hN:HN N)(x:DCell)(hs:(x.1.size<4000000)/\(x.2.2.1.length<4000000/\∀ e0∈x.2.2.1,(e0.1.size<4000000))/\(x.2.2.2.1.length<4000000/\∀ e0∈x.2.2.2.1,(e0.2.2.2.2.1.length<4000000/\∀ e1∈e0.2.2.2.2.1,(e1.1.length<4000000)/\(e1.2.1.length<4000000)/\(e1.2.2.1.length<4000000))/\(e0.2.2.2.2.2.1.length<4000000/\∀ e1∈e0.2.2.2.2.2.1,(e1.1.length<4000000)/\(e1.2.1.length<4000000)/\(e1.2.2.1.length<4000000)))/\(x.2.2.2.2.1.length<4000000))(u:Unit):F_29 N (x,u)=some (x,()):=by unfold F_29;refine (q27 (q946 hN x.2.2.1 (hs.2.1) ())).trans ?_;refine (q27 (q950 hN x.2.2.2.1 (hs.2.2.1) ())).trans ?_;refine (q27 (q97 hN x.2.2.2.2.1 (hs.2.2.2) ())).trans ?_;rfl
theorem q899{N:Nat}(hN:HN N)(x:List DCell)(hs:x.length<4000000/\∀ e0∈x,(e0.1.size<4000000)/\(e0.2.2.1.length<4000000/\∀ e1∈e0.2.2.1,(e1.1.size<4000000))/\(e0.2.2.2.1.length<4000000/\∀ e1∈e0.2.2.2.1,(e1.2.2.2.2.1.length<4000000/\∀ e2∈e1.2.2.2.2.1,(e2.1.length<4000000)/\(e2.2.1.length<4000000)/\(e2.2.2.1.length<4000000))/\(e1.2.2.2.2.2.1.length<4000000/\∀ e2∈e1.2.2.2.2.2.1,(e2.1.length<4000000)/\(e2.2.1.length<4000000)/\(e2.2.2.1.length<4000000)))/\(e0.2.2.2.2.1.length<4000000))(u:Unit):F_30 N (x,u)=some (x,()):=by unfold F_30;have hl:=hs.1;refine (q77 hl).trans ?_;exact q131 _ (fun e=>F_29 N (e,())) (fun e he=>q959 hN e (hs.2 e he) ()) hl hN
theorem q787{N:Nat}(hN:HN N)(x:DLibrary)(hs:(x.1.length<4000000/\∀ e0∈x.1,(e0.1.size<4000000)/\(e0.2.2.1.length<4000000/\∀ e1∈e0.2.2.1,(e1.1.size<4000000))/\(e0.2.2.2.1.length<4000000/\∀ e1∈e0.2.2.2.1,(e1.2.2.2.2.1.length<4000000/\∀ e2∈e1.2.2.2.2.1,(e2.1.length<4000000)/\(e2.2.1.length<4000000)/\(e2.2.2.1.length<4000000))/\(e1.2.2.2.2.2.1.length<4000000/\∀ e2∈e1.2.2.2.2.2.1,(e2.1.length<4000000)/\(e2.2.1.length<4000000)/\(e2.2.2.1.length<4000000)))/\(e0.2.2.2.2.1.length<4000000)))(u:Unit):F_31 N (x,u)=some (x,()):=by unfold F_31;refine (q27 (q899 hN x.1 (hs) ())).trans ?_;rfl
theorem q693{N:Nat}(hN:HN N)(x:DInstance)(hs:(x.1.size<4000000)/\(x.2.2.1.length<4000000))(u:Unit):F_32 N (x,u)=some (x,()):=by unfold F_32;refine (q27 (q97 hN x.2.2.1 (hs.2) ())).trans ?_;rfl
theorem q592{N:Nat}(hN:HN N)(x:List DInstance)(hs:x.length<4000000/\∀ e0∈x,(e0.1.size<4000000)/\(e0.2.2.1.length<4000000))(u:Unit):F_33 N (x,u)=some (x,()):=by unfold F_33;have hl:=hs.1;refine (q77 hl).trans ?_;exact q131 _ (fun e=>F_32 N (e,())) (fun e he=>q693 hN e (hs.2 e he) ()) hl hN
theorem q786{N:Nat}(hN:HN N)(x:List (ByteArray))(hs:x.length<4000000/\∀ e0∈x,e0.size<4000000)(u:Unit):F_34 N (x,u)=some (x,()):=by unfold F_34;have hl:=hs.1;refine (q77 hl).trans ?_;exact q814 _ hl hN
theorem q928{N:Nat}(hN:HN N)(x:DPort)(hs:(x.1.size<4000000))(u:Unit):F_35 N (x,u)=some (x,()):=by unfold F_35;rfl
theorem q914{N:Nat}(hN:HN N)(x:List DPort)(hs:x.length<4000000/\∀ e0∈x,(e0.1.size<4000000))(u:Unit):F_36 N (x,u)=some (x,()):=by unfold F_36;have hl:=hs.1;refine (q77 hl).trans ?_;exact q131 _ (fun e=>F_35 N (e,())) (fun e he=>q928 hN e (hs.2 e he) ()) hl hN
theorem q848{N:Nat}(hN:HN N)(x:DDesign)(hs:(x.1.length<4000000/\∀ e0∈x.1,(e0.1.size<4000000)/\(e0.2.2.1.length<4000000))/\(x.2.1.length<4000000/\∀ e0∈x.2.1,e0.size<4000000)/\(x.2.2.1.length<4000000/\∀ e0∈x.2.2.1,(e0.1.size<4000000)))(u:Unit):F_37 N (x,u)=some (x,()):=by unfold F_37;refine (q27 (q592 hN x.1 (hs.1) ())).trans ?_;refine (q27 (q786 hN x.2.1 (hs.2.1) ())).trans ?_;refine (q27 (q914 hN x.2.2.1 (hs.2.2) ())).trans ?_;rfl
theorem q944{N:Nat}(hN:HN N)(x:DWire)(hs:(x.1.length<4000000)/\(x.2.1.length<4000000)/\(x.2.2.1.length<4000000)/\(x.2.2.2.1.length<4000000))(u:Unit):F_38 N (x,u)=some (x,()):=by unfold F_38;refine (q27 (q97 hN x.1 (hs.1) ())).trans ?_;refine (q27 (q97 hN x.2.1 (hs.2.1) ())).trans ?_;refine (q27 (q97 hN x.2.2.1 (hs.2.2.1) ())).trans ?_;refine (q27 (q97 hN x.2.2.2.1 (hs.2.2.2) ())).trans ?_;rfl
theorem q906{N:Nat}(hN:HN N)(x:List DWire)(hs:x.length<4000000/\∀ e0∈x,(e0.1.length<4000000)/\(e0.2.1.length<4000000)/\(e0.2.2.1.length<4000000)/\(e0.2.2.2.1.length<4000000))(u:Unit):F_39 N (x,u)=some (x,()):=by unfold F_39;have hl:=hs.1;refine (q77 hl).trans ?_;exact q131 _ (fun e=>F_38 N (e,())) (fun e he=>q944 hN e (hs.2 e he) ()) hl hN
theorem q922{N:Nat}(hN:HN N)(x:DBlock)(hs:((x.1.1.length<4000000/\∀ e0∈x.1.1,(e0.1.size<4000000)/\(e0.2.2.1.length<4000000/\∀ e1∈e0.2.2.1,(e1.1.size<4000000))/\(e0.2.2.2.1.length<4000000/\∀ e1∈e0.2.2.2.1,(e1.2.2.2.2.1.length<4000000/\∀ e2∈e1.2.2.2.2.1,(e2.1.length<4000000)/\(e2.2.1.length<4000000)/\(e2.2.2.1.length<4000000))/\(e1.2.2.2.2.2.1.length<4000000/\∀ e2∈e1.2.2.2.2.2.1,(e2.1.length<4000000)/\(e2.2.1.length<4000000)/\(e2.2.2.1.length<4000000)))/\(e0.2.2.2.2.1.length<4000000)))/\((x.2.1.1.length<4000000/\∀ e0∈x.2.1.1,(e0.1.size<4000000)/\(e0.2.2.1.length<4000000))/\(x.2.1.2.1.length<4000000/\∀ e0∈x.2.1.2.1,e0.size<4000000)/\(x.2.1.2.2.1.length<4000000/\∀ e0∈x.2.1.2.2.1,(e0.1.size<4000000)))/\(x.2.2.1.length<4000000/\∀ e0∈x.2.2.1,(e0.1.length<4000000)/\(e0.2.1.length<4000000)/\(e0.2.2.1.length<4000000)/\(e0.2.2.2.1.length<4000000)))(u:Unit):F_40 N (x,u)=some (x,()):=by unfold F_40;refine (q27 (q787 hN x.1 (hs.1) ())).trans ?_;refine (q27 (q848 hN x.2.1 (hs.2.1) ())).trans ?_;refine (q27 (q906 hN x.2.2.1 (hs.2.2) ())).trans ?_;rfl
theorem q850{N:Nat}(hN:HN N)(x:DCorner)(hs:(x.1.size<4000000))(u:Unit):F_41 N (x,u)=some (x,()):=by unfold F_41;rfl
theorem q806{N:Nat}(hN:HN N)(x:DSpan)(hs:True)(u:Unit):F_42 N (x,u)=some (x,()):=by unfold F_42;rfl
theorem q871{N:Nat}(hN:HN N)(x:DSource)(hs:True)(u:Unit):F_43 N (x,u)=some (x,()):=by unfold F_43;refine (q27 (q806 hN x.2.1 trivial ())).trans ?_;refine (q27 (q806 hN x.2.2.1 trivial ())).trans ?_;rfl
theorem q763{N:Nat}(hN:HN N)(x:List DSource)(hs:x.length<4000000)(u:Unit):F_44 N (x,u)=some (x,()):=by unfold F_44;have hl:=hs;refine (q77 hl).trans ?_;exact q131 _ (fun e=>F_43 N (e,())) (fun e he=>q871 hN e trivial ()) hl hN
theorem to_Job{N:Nat}(hN:HN N)(x:DJob)(hs:(((x.1.1.1.length<4000000/\∀ e0∈x.1.1.1,(e0.1.size<4000000)/\(e0.2.2.1.length<4000000/\∀ e1∈e0.2.2.1,(e1.1.size<4000000))/\(e0.2.2.2.1.length<4000000/\∀ e1∈e0.2.2.2.1,(e1.2.2.2.2.1.length<4000000/\∀ e2∈e1.2.2.2.2.1,(e2.1.length<4000000)/\(e2.2.1.length<4000000)/\(e2.2.2.1.length<4000000))/\(e1.2.2.2.2.2.1.length<4000000/\∀ e2∈e1.2.2.2.2.2.1,(e2.1.length<4000000)/\(e2.2.1.length<4000000)/\(e2.2.2.1.length<4000000)))/\(e0.2.2.2.2.1.length<4000000)))/\((x.1.2.1.1.length<4000000/\∀ e0∈x.1.2.1.1,(e0.1.size<4000000)/\(e0.2.2.1.length<4000000))/\(x.1.2.1.2.1.length<4000000/\∀ e0∈x.1.2.1.2.1,e0.size<4000000)/\(x.1.2.1.2.2.1.length<4000000/\∀ e0∈x.1.2.1.2.2.1,(e0.1.size<4000000)))/\(x.1.2.2.1.length<4000000/\∀ e0∈x.1.2.2.1,(e0.1.length<4000000)/\(e0.2.1.length<4000000)/\(e0.2.2.1.length<4000000)/\(e0.2.2.2.1.length<4000000)))/\((x.2.1.1.size<4000000))/\(x.2.2.1.length<4000000)/\(x.2.2.2.1.length<4000000))(u:Unit):F_45 N (x,u)=some (x,()):=by unfold F_45;refine (q27 (q922 hN x.1 (hs.1) ())).trans ?_;refine (q27 (q850 hN x.2.1 (hs.2.1) ())).trans ?_;refine (q27 (q97 hN x.2.2.1 (hs.2.2.1) ())).trans ?_;refine (q27 (q763 hN x.2.2.2.1 (hs.2.2.2) ())).trans ?_;rfl
theorem q82{N:Nat}(hN:HN N)(x y:List (Int))(hs:x.length<4000000)(u:Unit):F_259 N (x,y,u)=some (dec (x=y),()):=by unfold F_259;exact q573 (hs) hN
theorem q672{N:Nat}(hN:HN N)(x y:DPath)(hs:(x.2.1.length<4000000))(u:Unit):F_260 N (x,y,u)=some (dec (x=y),()):=by
 refine Ret.tells ?_;unfold F_260;obtain ⟨x0,x1,x2,ux⟩:=x;obtain ⟨y0,y1,y2,uy⟩:=y;dsimp only;refine rl ?_ ?_ <;> intro g0
 .exact rb (q8.2 (fun h=>g0 (congrArg (fun z=>z.1) h)))
 refine ra (q82 hN x1 y1 (hs) ()) (ri ?_ ?_) <;> intro g1
 .exact rb (q8.2 (fun h=>g1 (congrArg (fun z=>z.2.1) h)))
 refine rl ?_ ?_ <;> intro g2
 .exact rb (q8.2 (fun h=>g2 (congrArg (fun z=>z.2.2.1) h)))
 subst g0 g1 g2;exact rb (q17.2 rfl)
theorem eq_Pin{N:Nat}(hN:HN N)(x y:DPin)(hs:(x.1.size<4000000))(u:Unit):F_261 N (x,y,u)=some (dec (x=y),()):=by
 refine Ret.tells ?_;unfold F_261;obtain ⟨x0,x1,x2,x3,ux⟩:=x;obtain ⟨y0,y1,y2,y3,uy⟩:=y;dsimp only;refine rl ?_ ?_ <;> intro g0
 .exact rb (q8.2 (fun h=>g0 (congrArg (fun z=>z.1) h)))
 refine rl ?_ ?_ <;> intro g1
 .exact rb (q8.2 (fun h=>g1 (congrArg (fun z=>z.2.1) h)))
 refine rl ?_ ?_ <;> intro g2
 .exact rb (q8.2 (fun h=>g2 (congrArg (fun z=>z.2.2.1) h)))
 refine rn ?_ ?_ <;> intro g3
 .exact rb (q8.2 fun h=>by have e:=congrArg (fun z=>z.2.2.2.1) h; dsimp only at e; subst e; simp at g3)
 have g3:x3=y3:=by simpa using g3
 subst g0 g1 g2 g3;exact rb (q17.2 rfl)
theorem q933{N:Nat}(hN:HN N)(x y:List DPin)(hs:x.length<4000000/\∀ e0∈x,(e0.1.size<4000000))(u:Unit):F_262 N (x,y,u)=some (dec (x=y),()):=by unfold F_262;exact q116 (fun e f=>F_261 N (e,f,())) (fun e he f _=>eq_Pin hN e f (hs.2 e he) ()) (hs.1) hN
theorem q915{N:Nat}(hN:HN N)(x y:DTable)(hs:(x.1.length<4000000)/\(x.2.1.length<4000000)/\(x.2.2.1.length<4000000))(u:Unit):F_263 N (x,y,u)=some (dec (x=y),()):=by
 refine Ret.tells ?_;unfold F_263;obtain ⟨x0,x1,x2,ux⟩:=x;obtain ⟨y0,y1,y2,uy⟩:=y;dsimp only;refine ra (q82 hN x0 y0 (hs.1) ()) (ri ?_ ?_) <;> intro g0
 .exact rb (q8.2 (fun h=>g0 (congrArg (fun z=>z.1) h)))
 refine ra (q82 hN x1 y1 (hs.2.1) ()) (ri ?_ ?_) <;> intro g1
 .exact rb (q8.2 (fun h=>g1 (congrArg (fun z=>z.2.1) h)))
 refine ra (q82 hN x2 y2 (hs.2.2) ()) (ri ?_ ?_) <;> intro g2
 .exact rb (q8.2 (fun h=>g2 (congrArg (fun z=>z.2.2.1) h)))
 subst g0 g1 g2;exact rb (q17.2 rfl)
theorem q640{N:Nat}(hN:HN N)(x y:List DTable)(hs:x.length<4000000/\∀ e0∈x,(e0.1.length<4000000)/\(e0.2.1.length<4000000)/\(e0.2.2.1.length<4000000))(u:Unit):F_264 N (x,y,u)=some (dec (x=y),()):=by unfold F_264;exact q116 (fun e f=>F_263 N (e,f,())) (fun e he f _=>q915 hN e f (hs.2 e he) ()) (hs.1) hN
theorem eq_Arc{N:Nat}(hN:HN N)(x y:DArc)(hs:(x.2.2.2.2.1.length<4000000/\∀ e0∈x.2.2.2.2.1,(e0.1.length<4000000)/\(e0.2.1.length<4000000)/\(e0.2.2.1.length<4000000))/\(x.2.2.2.2.2.1.length<4000000/\∀ e0∈x.2.2.2.2.2.1,(e0.1.length<4000000)/\(e0.2.1.length<4000000)/\(e0.2.2.1.length<4000000)))(u:Unit):F_265 N (x,y,u)=some (dec (x=y),()):=by
 refine Ret.tells ?_;unfold F_265;obtain ⟨x0,x1,x2,x3,x4,x5,ux⟩:=x;obtain ⟨y0,y1,y2,y3,y4,y5,uy⟩:=y;dsimp only;refine rl ?_ ?_ <;> intro g0
 .exact rb (q8.2 (fun h=>g0 (congrArg (fun z=>z.1) h)))
 refine rl ?_ ?_ <;> intro g1
 .exact rb (q8.2 (fun h=>g1 (congrArg (fun z=>z.2.1) h)))
 refine rl ?_ ?_ <;> intro g2
 .exact rb (q8.2 (fun h=>g2 (congrArg (fun z=>z.2.2.1) h)))
 refine rl ?_ ?_ <;> intro g3
 .exact rb (q8.2 (fun h=>g3 (congrArg (fun z=>z.2.2.2.1) h)))
 refine ra (q640 hN x4 y4 (hs.1) ()) (ri ?_ ?_) <;> intro g4
 .exact rb (q8.2 (fun h=>g4 (congrArg (fun z=>z.2.2.2.2.1) h)))
 refine ra (q640 hN x5 y5 (hs.2) ()) (ri ?_ ?_) <;> intro g5
 .exact rb (q8.2 (fun h=>g5 (congrArg (fun z=>z.2.2.2.2.2.1) h)))
 subst g0 g1 g2 g3 g4 g5;exact rb (q17.2 rfl)
theorem q930{N:Nat}(hN:HN N)(x y:List DArc)(hs:x.length<4000000/\∀ e0∈x,(e0.2.2.2.2.1.length<4000000/\∀ e1∈e0.2.2.2.2.1,(e1.1.length<4000000)/\(e1.2.1.length<4000000)/\(e1.2.2.1.length<4000000))/\(e0.2.2.2.2.2.1.length<4000000/\∀ e1∈e0.2.2.2.2.2.1,(e1.1.length<4000000)/\(e1.2.1.length<4000000)/\(e1.2.2.1.length<4000000)))(u:Unit):F_266 N (x,y,u)=some (dec (x=y),()):=by unfold F_266;exact q116 (fun e f=>F_265 N (e,f,())) (fun e he f _=>eq_Arc hN e f (hs.2 e he) ()) (hs.1) hN
theorem q940{N:Nat}(hN:HN N)(x y:DCell)(hs:(x.1.size<4000000)/\(x.2.2.1.length<4000000/\∀ e0∈x.2.2.1,(e0.1.size<4000000))/\(x.2.2.2.1.length<4000000/\∀ e0∈x.2.2.2.1,(e0.2.2.2.2.1.length<4000000/\∀ e1∈e0.2.2.2.2.1,(e1.1.length<4000000)/\(e1.2.1.length<4000000)/\(e1.2.2.1.length<4000000))/\(e0.2.2.2.2.2.1.length<4000000/\∀ e1∈e0.2.2.2.2.2.1,(e1.1.length<4000000)/\(e1.2.1.length<4000000)/\(e1.2.2.1.length<4000000)))/\(x.2.2.2.2.1.length<4000000))(u:Unit):F_267 N (x,y,u)=some (dec (x=y),()):=by
 refine Ret.tells ?_;unfold F_267;obtain ⟨x0,x1,x2,x3,x4,x5,x6,ux⟩:=x;obtain ⟨y0,y1,y2,y3,y4,y5,y6,uy⟩:=y;dsimp only;refine rl ?_ ?_ <;> intro g0
 .exact rb (q8.2 (fun h=>g0 (congrArg (fun z=>z.1) h)))
 refine rl ?_ ?_ <;> intro g1
 .exact rb (q8.2 (fun h=>g1 (congrArg (fun z=>z.2.1) h)))
 refine ra (q933 hN x2 y2 (hs.2.1) ()) (ri ?_ ?_) <;> intro g2
 .exact rb (q8.2 (fun h=>g2 (congrArg (fun z=>z.2.2.1) h)))
 refine ra (q930 hN x3 y3 (hs.2.2.1) ()) (ri ?_ ?_) <;> intro g3
 .exact rb (q8.2 (fun h=>g3 (congrArg (fun z=>z.2.2.2.1) h)))
 refine ra (q82 hN x4 y4 (hs.2.2.2) ()) (ri ?_ ?_) <;> intro g4
 .exact rb (q8.2 (fun h=>g4 (congrArg (fun z=>z.2.2.2.2.1) h)))
 refine rl ?_ ?_ <;> intro g5
 .exact rb (q8.2 (fun h=>g5 (congrArg (fun z=>z.2.2.2.2.2.1) h)))
 refine rl ?_ ?_ <;> intro g6
 .exact rb (q8.2 (fun h=>g6 (congrArg (fun z=>z.2.2.2.2.2.2.1) h)))
 subst g0 g1 g2 g3 g4 g5 g6;exact rb (q17.2 rfl)
theorem q882{N:Nat}(hN:HN N)(x y:List DCell)(hs:x.length<4000000/\∀ e0∈x,(e0.1.size<4000000)/\(e0.2.2.1.length<4000000/\∀ e1∈e0.2.2.1,(e1.1.size<4000000))/\(e0.2.2.2.1.length<4000000/\∀ e1∈e0.2.2.2.1,(e1.2.2.2.2.1.length<4000000/\∀ e2∈e1.2.2.2.2.1,(e2.1.length<4000000)/\(e2.2.1.length<4000000)/\(e2.2.2.1.length<4000000))/\(e1.2.2.2.2.2.1.length<4000000/\∀ e2∈e1.2.2.2.2.2.1,(e2.1.length<4000000)/\(e2.2.1.length<4000000)/\(e2.2.2.1.length<4000000)))/\(e0.2.2.2.2.1.length<4000000))(u:Unit):F_268 N (x,y,u)=some (dec (x=y),()):=by unfold F_268;exact q116 (fun e f=>F_267 N (e,f,())) (fun e he f _=>q940 hN e f (hs.2 e he) ()) (hs.1) hN
theorem q790{N:Nat}(hN:HN N)(x y:DLibrary)(hs:(x.1.length<4000000/\∀ e0∈x.1,(e0.1.size<4000000)/\(e0.2.2.1.length<4000000/\∀ e1∈e0.2.2.1,(e1.1.size<4000000))/\(e0.2.2.2.1.length<4000000/\∀ e1∈e0.2.2.2.1,(e1.2.2.2.2.1.length<4000000/\∀ e2∈e1.2.2.2.2.1,(e2.1.length<4000000)/\(e2.2.1.length<4000000)/\(e2.2.2.1.length<4000000))/\(e1.2.2.2.2.2.1.length<4000000/\∀ e2∈e1.2.2.2.2.2.1,(e2.1.length<4000000)/\(e2.2.1.length<4000000)/\(e2.2.2.1.length<4000000)))/\(e0.2.2.2.2.1.length<4000000)))(u:Unit):F_269 N (x,y,u)=some (dec (x=y),()):=by
 refine Ret.tells ?_;unfold F_269;obtain ⟨x0,ux⟩:=x;obtain ⟨y0,uy⟩:=y;dsimp only;refine ra (q882 hN x0 y0 (hs) ()) (ri ?_ ?_) <;> intro g0
 .exact rb (q8.2 (fun h=>g0 (congrArg (fun z=>z.1) h)))
 subst g0;exact rb (q17.2 rfl)
theorem q655{N:Nat}(hN:HN N)(x y:DInstance)(hs:(x.1.size<4000000)/\(x.2.2.1.length<4000000))(u:Unit):F_270 N (x,y,u)=some (dec (x=y),()):=by
 refine Ret.tells ?_;unfold F_270;obtain ⟨x0,x1,x2,ux⟩:=x;obtain ⟨y0,y1,y2,uy⟩:=y;dsimp only;refine rl ?_ ?_ <;> intro g0
 .exact rb (q8.2 (fun h=>g0 (congrArg (fun z=>z.1) h)))
 refine rl ?_ ?_ <;> intro g1
 .exact rb (q8.2 (fun h=>g1 (congrArg (fun z=>z.2.1) h)))
 refine ra (q82 hN x2 y2 (hs.2) ()) (ri ?_ ?_) <;> intro g2
 .exact rb (q8.2 (fun h=>g2 (congrArg (fun z=>z.2.2.1) h)))
 subst g0 g1 g2;exact rb (q17.2 rfl)
theorem q586{N:Nat}(hN:HN N)(x y:List DInstance)(hs:x.length<4000000/\∀ e0∈x,(e0.1.size<4000000)/\(e0.2.2.1.length<4000000))(u:Unit):F_271 N (x,y,u)=some (dec (x=y),()):=by unfold F_271;exact q116 (fun e f=>F_270 N (e,f,())) (fun e he f _=>q655 hN e f (hs.2 e he) ()) (hs.1) hN
theorem q781{N:Nat}(hN:HN N)(x y:List (ByteArray))(hs:x.length<4000000/\∀ e0∈x,e0.size<4000000)(u:Unit):F_272 N (x,y,u)=some (dec (x=y),()):=by unfold F_272;exact q573 (hs.1) hN
theorem q932{N:Nat}(hN:HN N)(x y:DPort)(hs:(x.1.size<4000000))(u:Unit):F_273 N (x,y,u)=some (dec (x=y),()):=by
 refine Ret.tells ?_;unfold F_273;obtain ⟨x0,x1,x2,ux⟩:=x;obtain ⟨y0,y1,y2,uy⟩:=y;dsimp only;refine rl ?_ ?_ <;> intro g0
 .exact rb (q8.2 (fun h=>g0 (congrArg (fun z=>z.1) h)))
 refine rl ?_ ?_ <;> intro g1
 .exact rb (q8.2 (fun h=>g1 (congrArg (fun z=>z.2.1) h)))
 refine rl ?_ ?_ <;> intro g2
 .exact rb (q8.2 (fun h=>g2 (congrArg (fun z=>z.2.2.1) h)))
 subst g0 g1 g2;exact rb (q17.2 rfl)
theorem q892{N:Nat}(hN:HN N)(x y:List DPort)(hs:x.length<4000000/\∀ e0∈x,(e0.1.size<4000000))(u:Unit):F_274 N (x,y,u)=some (dec (x=y),()):=by unfold F_274;exact q116 (fun e f=>F_273 N (e,f,())) (fun e he f _=>q932 hN e f (hs.2 e he) ()) (hs.1) hN
theorem q840{N:Nat}(hN:HN N)(x y:DDesign)(hs:(x.1.length<4000000/\∀ e0∈x.1,(e0.1.size<4000000)/\(e0.2.2.1.length<4000000))/\(x.2.1.length<4000000/\∀ e0∈x.2.1,e0.size<4000000)/\(x.2.2.1.length<4000000/\∀ e0∈x.2.2.1,(e0.1.size<4000000)))(u:Unit):F_275 N (x,y,u)=some (dec (x=y),()):=by
 refine Ret.tells ?_;unfold F_275;obtain ⟨x0,x1,x2,ux⟩:=x;obtain ⟨y0,y1,y2,uy⟩:=y;dsimp only;refine ra (q586 hN x0 y0 (hs.1) ()) (ri ?_ ?_) <;> intro g0
 .exact rb (q8.2 (fun h=>g0 (congrArg (fun z=>z.1) h)))
 refine ra (q781 hN x1 y1 (hs.2.1) ()) (ri ?_ ?_) <;> intro g1
 .exact rb (q8.2 (fun h=>g1 (congrArg (fun z=>z.2.1) h)))
 refine ra (q892 hN x2 y2 (hs.2.2) ()) (ri ?_ ?_) <;> intro g2
 .exact rb (q8.2 (fun h=>g2 (congrArg (fun z=>z.2.2.1) h)))
 subst g0 g1 g2;exact rb (q17.2 rfl)
theorem q955{N:Nat}(hN:HN N)(x y:DWire)(hs:(x.1.length<4000000)/\(x.2.1.length<4000000)/\(x.2.2.1.length<4000000)/\(x.2.2.2.1.length<4000000))(u:Unit):F_276 N (x,y,u)=some (dec (x=y),()):=by
 refine Ret.tells ?_;unfold F_276;obtain ⟨x0,x1,x2,x3,ux⟩:=x;obtain ⟨y0,y1,y2,y3,uy⟩:=y;dsimp only;refine ra (q82 hN x0 y0 (hs.1) ()) (ri ?_ ?_) <;> intro g0
 .exact rb (q8.2 (fun h=>g0 (congrArg (fun z=>z.1) h)))
 refine ra (q82 hN x1 y1 (hs.2.1) ()) (ri ?_ ?_) <;> intro g1
 .exact rb (q8.2 (fun h=>g1 (congrArg (fun z=>z.2.1) h)))
 refine ra (q82 hN x2 y2 (hs.2.2.1) ()) (ri ?_ ?_) <;> intro g2
 .exact rb (q8.2 (fun h=>g2 (congrArg (fun z=>z.2.2.1) h)))
 refine ra (q82 hN x3 y3 (hs.2.2.2) ()) (ri ?_ ?_) <;> intro g3
 .exact rb (q8.2 (fun h=>g3 (congrArg (fun z=>z.2.2.2.1) h)))
 subst g0 g1 g2 g3;exact rb (q17.2 rfl)
theorem q913{N:Nat}(hN:HN N)(x y:List DWire)(hs:x.length<4000000/\∀ e0∈x,(e0.1.length<4000000)/\(e0.2.1.length<4000000)/\(e0.2.2.1.length<4000000)/\(e0.2.2.2.1.length<4000000))(u:Unit):F_277 N (x,y,u)=some (dec (x=y),()):=by unfold F_277;exact q116 (fun e f=>F_276 N (e,f,())) (fun e he f _=>q955 hN e f (hs.2 e he) ()) (hs.1) hN
theorem q916{N:Nat}(hN:HN N)(x y:DBlock)(hs:((x.1.1.length<4000000/\∀ e0∈x.1.1,(e0.1.size<4000000)/\(e0.2.2.1.length<4000000/\∀ e1∈e0.2.2.1,(e1.1.size<4000000))/\(e0.2.2.2.1.length<4000000/\∀ e1∈e0.2.2.2.1,(e1.2.2.2.2.1.length<4000000/\∀ e2∈e1.2.2.2.2.1,(e2.1.length<4000000)/\(e2.2.1.length<4000000)/\(e2.2.2.1.length<4000000))/\(e1.2.2.2.2.2.1.length<4000000/\∀ e2∈e1.2.2.2.2.2.1,(e2.1.length<4000000)/\(e2.2.1.length<4000000)/\(e2.2.2.1.length<4000000)))/\(e0.2.2.2.2.1.length<4000000)))/\((x.2.1.1.length<4000000/\∀ e0∈x.2.1.1,(e0.1.size<4000000)/\(e0.2.2.1.length<4000000))/\(x.2.1.2.1.length<4000000/\∀ e0∈x.2.1.2.1,e0.size<4000000)/\(x.2.1.2.2.1.length<4000000/\∀ e0∈x.2.1.2.2.1,(e0.1.size<4000000)))/\(x.2.2.1.length<4000000/\∀ e0∈x.2.2.1,(e0.1.length<4000000)/\(e0.2.1.length<4000000)/\(e0.2.2.1.length<4000000)/\(e0.2.2.2.1.length<4000000)))(u:Unit):F_278 N (x,y,u)=some (dec (x=y),()):=by
 refine Ret.tells ?_;unfold F_278;obtain ⟨x0,x1,x2,ux⟩:=x;obtain ⟨y0,y1,y2,uy⟩:=y;dsimp only;refine ra (q790 hN x0 y0 (hs.1) ()) (ri ?_ ?_) <;> intro g0
 .exact rb (q8.2 (fun h=>g0 (congrArg (fun z=>z.1) h)))
 refine ra (q840 hN x1 y1 (hs.2.1) ()) (ri ?_ ?_) <;> intro g1
 .exact rb (q8.2 (fun h=>g1 (congrArg (fun z=>z.2.1) h)))
 refine ra (q913 hN x2 y2 (hs.2.2) ()) (ri ?_ ?_) <;> intro g2
 .exact rb (q8.2 (fun h=>g2 (congrArg (fun z=>z.2.2.1) h)))
 subst g0 g1 g2;exact rb (q17.2 rfl)
theorem q810{N:Nat}(hN:HN N)(x y:DCorner)(hs:(x.1.size<4000000))(u:Unit):F_279 N (x,y,u)=some (dec (x=y),()):=by
 refine Ret.tells ?_;unfold F_279;obtain ⟨x0,x1,x2,x3,x4,ux⟩:=x;obtain ⟨y0,y1,y2,y3,y4,uy⟩:=y;dsimp only;refine rl ?_ ?_ <;> intro g0
 .exact rb (q8.2 (fun h=>g0 (congrArg (fun z=>z.1) h)))
 refine rl ?_ ?_ <;> intro g1
 .exact rb (q8.2 (fun h=>g1 (congrArg (fun z=>z.2.1) h)))
 refine rl ?_ ?_ <;> intro g2
 .exact rb (q8.2 (fun h=>g2 (congrArg (fun z=>z.2.2.1) h)))
 refine rl ?_ ?_ <;> intro g3
 .exact rb (q8.2 (fun h=>g3 (congrArg (fun z=>z.2.2.2.1) h)))
 refine rl ?_ ?_ <;> intro g4
 .exact rb (q8.2 (fun h=>g4 (congrArg (fun z=>z.2.2.2.2.1) h)))
 subst g0 g1 g2 g3 g4;exact rb (q17.2 rfl)
theorem q809{N:Nat}(hN:HN N)(x y:DSpan)(hs:True)(u:Unit):F_280 N (x,y,u)=some (dec (x=y),()):=by
 refine Ret.tells ?_;unfold F_280;obtain ⟨x0,x1,ux⟩:=x;obtain ⟨y0,y1,uy⟩:=y;dsimp only;refine rl ?_ ?_ <;> intro g0
 .exact rb (q8.2 (fun h=>g0 (congrArg (fun z=>z.1) h)))
 refine rl ?_ ?_ <;> intro g1
 .exact rb (q8.2 (fun h=>g1 (congrArg (fun z=>z.2.1) h)))
 subst g0 g1;exact rb (q17.2 rfl)
theorem q870{N:Nat}(hN:HN N)(x y:DSource)(hs:True)(u:Unit):F_281 N (x,y,u)=some (dec (x=y),()):=by
 refine Ret.tells ?_;unfold F_281;obtain ⟨x0,x1,x2,ux⟩:=x;obtain ⟨y0,y1,y2,uy⟩:=y;dsimp only;refine rl ?_ ?_ <;> intro g0
 .exact rb (q8.2 (fun h=>g0 (congrArg (fun z=>z.1) h)))
 refine ra (q809 hN x1 y1 trivial ()) (ri ?_ ?_) <;> intro g1
 .exact rb (q8.2 (fun h=>g1 (congrArg (fun z=>z.2.1) h)))
 refine ra (q809 hN x2 y2 trivial ()) (ri ?_ ?_) <;> intro g2
 .exact rb (q8.2 (fun h=>g2 (congrArg (fun z=>z.2.2.1) h)))
 subst g0 g1 g2;exact rb (q17.2 rfl)
theorem q766{N:Nat}(hN:HN N)(x y:List DSource)(hs:x.length<4000000)(u:Unit):F_282 N (x,y,u)=some (dec (x=y),()):=by unfold F_282;exact q116 (fun e f=>F_281 N (e,f,())) (fun e he f _=>q870 hN e f trivial ()) (hs) hN
theorem eq_Job{N:Nat}(hN:HN N)(x y:DJob)(hs:(((x.1.1.1.length<4000000/\∀ e0∈x.1.1.1,(e0.1.size<4000000)/\(e0.2.2.1.length<4000000/\∀ e1∈e0.2.2.1,(e1.1.size<4000000))/\(e0.2.2.2.1.length<4000000/\∀ e1∈e0.2.2.2.1,(e1.2.2.2.2.1.length<4000000/\∀ e2∈e1.2.2.2.2.1,(e2.1.length<4000000)/\(e2.2.1.length<4000000)/\(e2.2.2.1.length<4000000))/\(e1.2.2.2.2.2.1.length<4000000/\∀ e2∈e1.2.2.2.2.2.1,(e2.1.length<4000000)/\(e2.2.1.length<4000000)/\(e2.2.2.1.length<4000000)))/\(e0.2.2.2.2.1.length<4000000)))/\((x.1.2.1.1.length<4000000/\∀ e0∈x.1.2.1.1,(e0.1.size<4000000)/\(e0.2.2.1.length<4000000))/\(x.1.2.1.2.1.length<4000000/\∀ e0∈x.1.2.1.2.1,e0.size<4000000)/\(x.1.2.1.2.2.1.length<4000000/\∀ e0∈x.1.2.1.2.2.1,(e0.1.size<4000000)))/\(x.1.2.2.1.length<4000000/\∀ e0∈x.1.2.2.1,(e0.1.length<4000000)/\(e0.2.1.length<4000000)/\(e0.2.2.1.length<4000000)/\(e0.2.2.2.1.length<4000000)))/\((x.2.1.1.size<4000000))/\(x.2.2.1.length<4000000)/\(x.2.2.2.1.length<4000000))(u:Unit):F_283 N (x,y,u)=some (dec (x=y),()):=by
 refine Ret.tells ?_;unfold F_283;obtain ⟨x0,x1,x2,x3,ux⟩:=x;obtain ⟨y0,y1,y2,y3,uy⟩:=y;dsimp only;refine ra (q916 hN x0 y0 (hs.1) ()) (ri ?_ ?_) <;> intro g0
 .exact rb (q8.2 (fun h=>g0 (congrArg (fun z=>z.1) h)))
 refine ra (q810 hN x1 y1 (hs.2.1) ()) (ri ?_ ?_) <;> intro g1
 .exact rb (q8.2 (fun h=>g1 (congrArg (fun z=>z.2.1) h)))
 refine ra (q82 hN x2 y2 (hs.2.2.1) ()) (ri ?_ ?_) <;> intro g2
 .exact rb (q8.2 (fun h=>g2 (congrArg (fun z=>z.2.2.1) h)))
 refine ra (q766 hN x3 y3 (hs.2.2.2) ()) (ri ?_ ?_) <;> intro g3
 .exact rb (q8.2 (fun h=>g3 (congrArg (fun z=>z.2.2.2.1) h)))
 subst g0 g1 g2 g3;exact rb (q17.2 rfl)
end Go.Proofs.YtlmfklfjmalanaaGreatDoor
