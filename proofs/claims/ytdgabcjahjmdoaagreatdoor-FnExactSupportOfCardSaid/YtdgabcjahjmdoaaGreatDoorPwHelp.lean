/- The laws' own helpers: what they return. Printed by my lawgen.py. No program in sight. -/
import Derived.Test.YtdgabcjahjmdoaaGreatDoorPvF1
import Derived.Test.YtdgabcjahjmdoaaGreatDoorPgF
namespace Go.Proofs.YtdgabcjahjmdoaaGreatDoor
set_option linter.unusedSimpArgs false
set_option linter.unusedVariables false
theorem to_Pin{N:Nat}(hN:HN N)(x:DPin)(hs:(x.1.size<4000000))(u:Unit):F_19 N (x,u)=some (x,()):=by unfold F_19;rfl
theorem q774{N:Nat}(hN:HN N)(x:List DPin)(hs:x.length<4000000/\∀ e0∈x,(e0.1.size<4000000))(u:Unit):F_20 N (x,u)=some (x,()):=by unfold F_20;have hl:=hs.1;refine (q76 hl).trans ?_;exact q132 _ (fun e=>F_19 N (e,())) (fun e he=>to_Pin hN e (hs.2 e he) ()) hl hN
theorem q94{N:Nat}(hN:HN N)(x:List (Int))(hs:x.length<4000000)(u:Unit):F_21 N (x,u)=some (x,()):=by unfold F_21;have hl:=hs;refine (q76 hl).trans ?_;exact q716 _ hl hN
theorem q761{N:Nat}(hN:HN N)(x:DTable)(hs:(x.1.length<4000000)/\(x.2.1.length<4000000)/\(x.2.2.1.length<4000000))(u:Unit):F_22 N (x,u)=some (x,()):=by unfold F_22;refine (q23 (q94 hN x.1 (hs.1) ())).trans ?_;refine (q23 (q94 hN x.2.1 (hs.2.1) ())).trans ?_;refine (q23 (q94 hN x.2.2.1 (hs.2.2) ())).trans ?_;rfl
theorem q512{N:Nat}(hN:HN N)(x:List DTable)(hs:x.length<4000000/\∀ e0∈x,(e0.1.length<4000000)/\(e0.2.1.length<4000000)/\(e0.2.2.1.length<4000000))(u:Unit):F_23 N (x,u)=some (x,()):=by unfold F_23;have hl:=hs.1;refine (q76 hl).trans ?_;exact q132 _ (fun e=>F_22 N (e,())) (fun e he=>q761 hN e (hs.2 e he) ()) hl hN
theorem to_Arc{N:Nat}(hN:HN N)(x:DArc)(hs:(x.2.2.2.2.1.length<4000000/\∀ e0∈x.2.2.2.2.1,(e0.1.length<4000000)/\(e0.2.1.length<4000000)/\(e0.2.2.1.length<4000000))/\(x.2.2.2.2.2.1.length<4000000/\∀ e0∈x.2.2.2.2.2.1,(e0.1.length<4000000)/\(e0.2.1.length<4000000)/\(e0.2.2.1.length<4000000)))(u:Unit):F_24 N (x,u)=some (x,()):=by unfold F_24;refine (q23 (q512 hN x.2.2.2.2.1 (hs.1) ())).trans ?_;refine (q23 (q512 hN x.2.2.2.2.2.1 (hs.2) ())).trans ?_;rfl
theorem q794{N:Nat}(hN:HN N)(x:List DArc)(hs:x.length<4000000/\∀ e0∈x,(e0.2.2.2.2.1.length<4000000/\∀ e1∈e0.2.2.2.2.1,(e1.1.length<4000000)/\(e1.2.1.length<4000000)/\(e1.2.2.1.length<4000000))/\(e0.2.2.2.2.2.1.length<4000000/\∀ e1∈e0.2.2.2.2.2.1,(e1.1.length<4000000)/\(e1.2.1.length<4000000)/\(e1.2.2.1.length<4000000)))(u:Unit):F_25 N (x,u)=some (x,()):=by unfold F_25;have hl:=hs.1;refine (q76 hl).trans ?_;exact q132 _ (fun e=>F_24 N (e,())) (fun e he=>to_Arc hN e (hs.2 e he) ()) hl hN
theorem q768{N:Nat}(hN:HN N)(x:DCell)(hs:(x.1.size<4000000)/\(x.2.2.1.length<4000000/\∀ e0∈x.2.2.1,(e0.1.size<4000000))/\(x.2.2.2.1.length<4000000/\∀ e0∈x.2.2.2.1,(e0.2.2.2.2.1.length<4000000/\∀ e1∈e0.2.2.2.2.1,(e1.1.length<4000000)/\(e1.2.1.length<4000000)/\(e1.2.2.1.length<4000000))/\(e0.2.2.2.2.2.1.length<4000000/\∀ e1∈e0.2.2.2.2.2.1,(e1.1.length<4000000)/\(e1.2.1.length<4000000)/\(e1.2.2.1.length<4000000)))/\(x.2.2.2.2.1.length<4000000))(u:Unit):F_26 N (x,u)=some (x,()):=by unfold F_26;refine (q23 (q774 hN x.2.2.1 (hs.2.1) ())).trans ?_;refine (q23 (q794 hN x.2.2.2.1 (hs.2.2.1) ())).trans ?_;refine (q23 (q94 hN x.2.2.2.2.1 (hs.2.2.2) ())).trans ?_;rfl
theorem q735{N:Nat}(hN:HN N)(x:List DCell)(hs:x.length<4000000/\∀ e0∈x,(e0.1.size<4000000)/\(e0.2.2.1.length<4000000/\∀ e1∈e0.2.2.1,(e1.1.size<4000000))/\(e0.2.2.2.1.length<4000000/\∀ e1∈e0.2.2.2.1,(e1.2.2.2.2.1.length<4000000/\∀ e2∈e1.2.2.2.2.1,(e2.1.length<4000000)/\(e2.2.1.length<4000000)/\(e2.2.2.1.length<4000000))/\(e1.2.2.2.2.2.1.length<4000000/\∀ e2∈e1.2.2.2.2.2.1,(e2.1.length<4000000)/\(e2.2.1.length<4000000)/\(e2.2.2.1.length<4000000)))/\(e0.2.2.2.2.1.length<4000000))(u:Unit):F_27 N (x,u)=some (x,()):=by unfold F_27;have hl:=hs.1;refine (q76 hl).trans ?_;exact q132 _ (fun e=>F_26 N (e,())) (fun e he=>q768 hN e (hs.2 e he) ()) hl hN
theorem q636{N:Nat}(hN:HN N)(x:DLibrary)(hs:(x.1.length<4000000/\∀ e0∈x.1,(e0.1.size<4000000)/\(e0.2.2.1.length<4000000/\∀ e1∈e0.2.2.1,(e1.1.size<4000000))/\(e0.2.2.2.1.length<4000000/\∀ e1∈e0.2.2.2.1,(e1.2.2.2.2.1.length<4000000/\∀ e2∈e1.2.2.2.2.1,(e2.1.length<4000000)/\(e2.2.1.length<4000000)/\(e2.2.2.1.length<4000000))/\(e1.2.2.2.2.2.1.length<4000000/\∀ e2∈e1.2.2.2.2.2.1,(e2.1.length<4000000)/\(e2.2.1.length<4000000)/\(e2.2.2.1.length<4000000)))/\(e0.2.2.2.2.1.length<4000000)))(u:Unit):F_28 N (x,u)=some (x,()):=by unfold F_28;refine (q23 (q735 hN x.1 (hs) ())).trans ?_;rfl
theorem q535{N:Nat}(hN:HN N)(x:DInstance)(hs:(x.1.size<4000000)/\(x.2.2.1.length<4000000))(u:Unit):F_29 N (x,u)=some (x,()):=by unfold F_29;refine (q23 (q94 hN x.2.2.1 (hs.2) ())).trans ?_;rfl
theorem q509{N:Nat}(hN:HN N)(x:List DInstance)(hs:x.length<4000000/\∀ e0∈x,(e0.1.size<4000000)/\(e0.2.2.1.length<4000000))(u:Unit):F_30 N (x,u)=some (x,()):=by unfold F_30;have hl:=hs.1;refine (q76 hl).trans ?_;exact q132 _ (fun e=>F_29 N (e,())) (fun e he=>q535 hN e (hs.2 e he) ()) hl hN
theorem q633{N:Nat}(hN:HN N)(x:List (ByteArray))(hs:x.length<4000000/\∀ e0∈x,e0.size<4000000)(u:Unit):F_31 N (x,u)=some (x,()):=by unfold F_31;have hl:=hs.1;refine (q76 hl).trans ?_;exact q716 _ hl hN
theorem q763{N:Nat}(hN:HN N)(x:DPort)(hs:(x.1.size<4000000))(u:Unit):F_32 N (x,u)=some (x,()):=by unfold F_32;rfl
theorem q752{N:Nat}(hN:HN N)(x:List DPort)(hs:x.length<4000000/\∀ e0∈x,(e0.1.size<4000000))(u:Unit):F_33 N (x,u)=some (x,()):=by unfold F_33;have hl:=hs.1;refine (q76 hl).trans ?_;exact q132 _ (fun e=>F_32 N (e,())) (fun e he=>q763 hN e (hs.2 e he) ()) hl hN
theorem q707{N:Nat}(hN:HN N)(x:DDesign)(hs:(x.1.length<4000000/\∀ e0∈x.1,(e0.1.size<4000000)/\(e0.2.2.1.length<4000000))/\(x.2.1.length<4000000/\∀ e0∈x.2.1,e0.size<4000000)/\(x.2.2.1.length<4000000/\∀ e0∈x.2.2.1,(e0.1.size<4000000)))(u:Unit):F_34 N (x,u)=some (x,()):=by unfold F_34;refine (q23 (q509 hN x.1 (hs.1) ())).trans ?_;refine (q23 (q633 hN x.2.1 (hs.2.1) ())).trans ?_;refine (q23 (q752 hN x.2.2.1 (hs.2.2) ())).trans ?_;rfl
theorem q778{N:Nat}(hN:HN N)(x:DWire)(hs:(x.1.length<4000000)/\(x.2.1.length<4000000)/\(x.2.2.1.length<4000000)/\(x.2.2.2.1.length<4000000))(u:Unit):F_35 N (x,u)=some (x,()):=by unfold F_35;refine (q23 (q94 hN x.1 (hs.1) ())).trans ?_;refine (q23 (q94 hN x.2.1 (hs.2.1) ())).trans ?_;refine (q23 (q94 hN x.2.2.1 (hs.2.2.1) ())).trans ?_;refine (q23 (q94 hN x.2.2.2.1 (hs.2.2.2) ())).trans ?_;rfl
theorem q749{N:Nat}(hN:HN N)(x:List DWire)(hs:x.length<4000000/\∀ e0∈x,(e0.1.length<4000000)/\(e0.2.1.length<4000000)/\(e0.2.2.1.length<4000000)/\(e0.2.2.2.1.length<4000000))(u:Unit):F_36 N (x,u)=some (x,()):=by unfold F_36;have hl:=hs.1;refine (q76 hl).trans ?_;exact q132 _ (fun e=>F_35 N (e,())) (fun e he=>q778 hN e (hs.2 e he) ()) hl hN
theorem q339{N:Nat}(hN:HN N)(x:DBlock)(hs:((x.1.1.length<4000000/\∀ e0∈x.1.1,(e0.1.size<4000000)/\(e0.2.2.1.length<4000000/\∀ e1∈e0.2.2.1,(e1.1.size<4000000))/\(e0.2.2.2.1.length<4000000/\∀ e1∈e0.2.2.2.1,(e1.2.2.2.2.1.length<4000000/\∀ e2∈e1.2.2.2.2.1,(e2.1.length<4000000)/\(e2.2.1.length<4000000)/\(e2.2.2.1.length<4000000))/\(e1.2.2.2.2.2.1.length<4000000/\∀ e2∈e1.2.2.2.2.2.1,(e2.1.length<4000000)/\(e2.2.1.length<4000000)/\(e2.2.2.1.length<4000000)))/\(e0.2.2.2.2.1.length<4000000)))/\((x.2.1.1.length<4000000/\∀ e0∈x.2.1.1,(e0.1.size<4000000)/\(e0.2.2.1.length<4000000))/\(x.2.1.2.1.length<4000000/\∀ e0∈x.2.1.2.1,e0.size<4000000)/\(x.2.1.2.2.1.length<4000000/\∀ e0∈x.2.1.2.2.1,(e0.1.size<4000000)))/\(x.2.2.1.length<4000000/\∀ e0∈x.2.2.1,(e0.1.length<4000000)/\(e0.2.1.length<4000000)/\(e0.2.2.1.length<4000000)/\(e0.2.2.2.1.length<4000000)))(u:Unit):F_37 N (x,u)=some (x,()):=by unfold F_37;refine (q23 (q636 hN x.1 (hs.1) ())).trans ?_;refine (q23 (q707 hN x.2.1 (hs.2.1) ())).trans ?_;refine (q23 (q749 hN x.2.2.1 (hs.2.2) ())).trans ?_;rfl
theorem q63{N:Nat}(hN:HN N)(x y:List (Int))(hs:x.length<4000000)(u:Unit):F_132 N (x,y,u)=some (dec (x=y),()):=by unfold F_132;exact q469 (hs) hN
theorem eq_Pin{N:Nat}(hN:HN N)(x y:DPin)(hs:(x.1.size<4000000))(u:Unit):F_133 N (x,y,u)=some (dec (x=y),()):=by
 refine Ret.tells ?_;unfold F_133;obtain ⟨x0,x1,x2,x3,ux⟩:=x;obtain ⟨y0,y1,y2,y3,uy⟩:=y;dsimp only;refine ri ?_ ?_ <;> intro g0
 .exact ra (q7.2 (fun h=>g0 (congrArg (fun z=>z.1) h)))
 refine ri ?_ ?_ <;> intro g1
 .exact ra (q7.2 (fun h=>g1 (congrArg (fun z=>z.2.1) h)))
 refine ri ?_ ?_ <;> intro g2
 .exact ra (q7.2 (fun h=>g2 (congrArg (fun z=>z.2.2.1) h)))
 refine rr ?_ ?_ <;> intro g3
 .exact ra (q7.2 fun h=>by have e:=congrArg (fun z=>z.2.2.2.1) h; dsimp only at e; subst e; simp at g3)
 have g3:x3=y3:=by simpa using g3
 subst g0 g1 g2 g3;exact ra (q20.2 rfl)
theorem q772{N:Nat}(hN:HN N)(x y:List DPin)(hs:x.length<4000000/\∀ e0∈x,(e0.1.size<4000000))(u:Unit):F_134 N (x,y,u)=some (dec (x=y),()):=by unfold F_134;exact q110 (fun e f=>F_133 N (e,f,())) (fun e he f _=>eq_Pin hN e f (hs.2 e he) ()) (hs.1) hN
theorem q736{N:Nat}(hN:HN N)(x y:DTable)(hs:(x.1.length<4000000)/\(x.2.1.length<4000000)/\(x.2.2.1.length<4000000))(u:Unit):F_135 N (x,y,u)=some (dec (x=y),()):=by
 refine Ret.tells ?_;unfold F_135;obtain ⟨x0,x1,x2,ux⟩:=x;obtain ⟨y0,y1,y2,uy⟩:=y;dsimp only;refine rb (q63 hN x0 y0 (hs.1) ()) (re ?_ ?_) <;> intro g0
 .exact ra (q7.2 (fun h=>g0 (congrArg (fun z=>z.1) h)))
 refine rb (q63 hN x1 y1 (hs.2.1) ()) (re ?_ ?_) <;> intro g1
 .exact ra (q7.2 (fun h=>g1 (congrArg (fun z=>z.2.1) h)))
 refine rb (q63 hN x2 y2 (hs.2.2) ()) (re ?_ ?_) <;> intro g2
 .exact ra (q7.2 (fun h=>g2 (congrArg (fun z=>z.2.2.1) h)))
 subst g0 g1 g2;exact ra (q20.2 rfl)
theorem q502{N:Nat}(hN:HN N)(x y:List DTable)(hs:x.length<4000000/\∀ e0∈x,(e0.1.length<4000000)/\(e0.2.1.length<4000000)/\(e0.2.2.1.length<4000000))(u:Unit):F_136 N (x,y,u)=some (dec (x=y),()):=by unfold F_136;exact q110 (fun e f=>F_135 N (e,f,())) (fun e he f _=>q736 hN e f (hs.2 e he) ()) (hs.1) hN
theorem eq_Arc{N:Nat}(hN:HN N)(x y:DArc)(hs:(x.2.2.2.2.1.length<4000000/\∀ e0∈x.2.2.2.2.1,(e0.1.length<4000000)/\(e0.2.1.length<4000000)/\(e0.2.2.1.length<4000000))/\(x.2.2.2.2.2.1.length<4000000/\∀ e0∈x.2.2.2.2.2.1,(e0.1.length<4000000)/\(e0.2.1.length<4000000)/\(e0.2.2.1.length<4000000)))(u:Unit):F_137 N (x,y,u)=some (dec (x=y),()):=by
 refine Ret.tells ?_;unfold F_137;obtain ⟨x0,x1,x2,x3,x4,x5,ux⟩:=x;obtain ⟨y0,y1,y2,y3,y4,y5,uy⟩:=y;dsimp only;refine ri ?_ ?_ <;> intro g0
 .exact ra (q7.2 (fun h=>g0 (congrArg (fun z=>z.1) h)))
 refine ri ?_ ?_ <;> intro g1
 .exact ra (q7.2 (fun h=>g1 (congrArg (fun z=>z.2.1) h)))
 refine ri ?_ ?_ <;> intro g2
 .exact ra (q7.2 (fun h=>g2 (congrArg (fun z=>z.2.2.1) h)))
 refine ri ?_ ?_ <;> intro g3
 .exact ra (q7.2 (fun h=>g3 (congrArg (fun z=>z.2.2.2.1) h)))
 refine rb (q502 hN x4 y4 (hs.1) ()) (re ?_ ?_) <;> intro g4
 .exact ra (q7.2 (fun h=>g4 (congrArg (fun z=>z.2.2.2.2.1) h)))
 refine rb (q502 hN x5 y5 (hs.2) ()) (re ?_ ?_) <;> intro g5
 .exact ra (q7.2 (fun h=>g5 (congrArg (fun z=>z.2.2.2.2.2.1) h)))
 subst g0 g1 g2 g3 g4 g5;exact ra (q20.2 rfl)
theorem q785{N:Nat}(hN:HN N)(x y:List DArc)(hs:x.length<4000000/\∀ e0∈x,(e0.2.2.2.2.1.length<4000000/\∀ e1∈e0.2.2.2.2.1,(e1.1.length<4000000)/\(e1.2.1.length<4000000)/\(e1.2.2.1.length<4000000))/\(e0.2.2.2.2.2.1.length<4000000/\∀ e1∈e0.2.2.2.2.2.1,(e1.1.length<4000000)/\(e1.2.1.length<4000000)/\(e1.2.2.1.length<4000000)))(u:Unit):F_138 N (x,y,u)=some (dec (x=y),()):=by unfold F_138;exact q110 (fun e f=>F_137 N (e,f,())) (fun e he f _=>eq_Arc hN e f (hs.2 e he) ()) (hs.1) hN
theorem q769{N:Nat}(hN:HN N)(x y:DCell)(hs:(x.1.size<4000000)/\(x.2.2.1.length<4000000/\∀ e0∈x.2.2.1,(e0.1.size<4000000))/\(x.2.2.2.1.length<4000000/\∀ e0∈x.2.2.2.1,(e0.2.2.2.2.1.length<4000000/\∀ e1∈e0.2.2.2.2.1,(e1.1.length<4000000)/\(e1.2.1.length<4000000)/\(e1.2.2.1.length<4000000))/\(e0.2.2.2.2.2.1.length<4000000/\∀ e1∈e0.2.2.2.2.2.1,(e1.1.length<4000000)/\(e1.2.1.length<4000000)/\(e1.2.2.1.length<4000000)))/\(x.2.2.2.2.1.length<4000000))(u:Unit):F_139 N (x,y,u)=some (dec (x=y),()):=by
 refine Ret.tells ?_;unfold F_139;obtain ⟨x0,x1,x2,x3,x4,x5,x6,ux⟩:=x;obtain ⟨y0,y1,y2,y3,y4,y5,y6,uy⟩:=y;dsimp only;refine ri ?_ ?_ <;> intro g0
 .exact ra (q7.2 (fun h=>g0 (congrArg (fun z=>z.1) h)))
 refine ri ?_ ?_ <;> intro g1
 .exact ra (q7.2 (fun h=>g1 (congrArg (fun z=>z.2.1) h)))
 refine rb (q772 hN x2 y2 (hs.2.1) ()) (re ?_ ?_) <;> intro g2
 .exact ra (q7.2 (fun h=>g2 (congrArg (fun z=>z.2.2.1) h)))
 refine rb (q785 hN x3 y3 (hs.2.2.1) ()) (re ?_ ?_) <;> intro g3
 .exact ra (q7.2 (fun h=>g3 (congrArg (fun z=>z.2.2.2.1) h)))
 refine rb (q63 hN x4 y4 (hs.2.2.2) ()) (re ?_ ?_) <;> intro g4
 .exact ra (q7.2 (fun h=>g4 (congrArg (fun z=>z.2.2.2.2.1) h)))
 refine ri ?_ ?_ <;> intro g5
 .exact ra (q7.2 (fun h=>g5 (congrArg (fun z=>z.2.2.2.2.2.1) h)))
 refine ri ?_ ?_ <;> intro g6
 .exact ra (q7.2 (fun h=>g6 (congrArg (fun z=>z.2.2.2.2.2.2.1) h)))
 subst g0 g1 g2 g3 g4 g5 g6;exact ra (q20.2 rfl)
theorem q726{N:Nat}(hN:HN N)(x y:List DCell)(hs:x.length<4000000/\∀ e0∈x,(e0.1.size<4000000)/\(e0.2.2.1.length<4000000/\∀ e1∈e0.2.2.1,(e1.1.size<4000000))/\(e0.2.2.2.1.length<4000000/\∀ e1∈e0.2.2.2.1,(e1.2.2.2.2.1.length<4000000/\∀ e2∈e1.2.2.2.2.1,(e2.1.length<4000000)/\(e2.2.1.length<4000000)/\(e2.2.2.1.length<4000000))/\(e1.2.2.2.2.2.1.length<4000000/\∀ e2∈e1.2.2.2.2.2.1,(e2.1.length<4000000)/\(e2.2.1.length<4000000)/\(e2.2.2.1.length<4000000)))/\(e0.2.2.2.2.1.length<4000000))(u:Unit):F_140 N (x,y,u)=some (dec (x=y),()):=by unfold F_140;exact q110 (fun e f=>F_139 N (e,f,())) (fun e he f _=>q769 hN e f (hs.2 e he) ()) (hs.1) hN
theorem q635{N:Nat}(hN:HN N)(x y:DLibrary)(hs:(x.1.length<4000000/\∀ e0∈x.1,(e0.1.size<4000000)/\(e0.2.2.1.length<4000000/\∀ e1∈e0.2.2.1,(e1.1.size<4000000))/\(e0.2.2.2.1.length<4000000/\∀ e1∈e0.2.2.2.1,(e1.2.2.2.2.1.length<4000000/\∀ e2∈e1.2.2.2.2.1,(e2.1.length<4000000)/\(e2.2.1.length<4000000)/\(e2.2.2.1.length<4000000))/\(e1.2.2.2.2.2.1.length<4000000/\∀ e2∈e1.2.2.2.2.2.1,(e2.1.length<4000000)/\(e2.2.1.length<4000000)/\(e2.2.2.1.length<4000000)))/\(e0.2.2.2.2.1.length<4000000)))(u:Unit):F_141 N (x,y,u)=some (dec (x=y),()):=by
 refine Ret.tells ?_;unfold F_141;obtain ⟨x0,ux⟩:=x;obtain ⟨y0,uy⟩:=y;dsimp only;refine rb (q726 hN x0 y0 (hs) ()) (re ?_ ?_) <;> intro g0
 .exact ra (q7.2 (fun h=>g0 (congrArg (fun z=>z.1) h)))
 subst g0;exact ra (q20.2 rfl)
theorem q547{N:Nat}(hN:HN N)(x y:DInstance)(hs:(x.1.size<4000000)/\(x.2.2.1.length<4000000))(u:Unit):F_142 N (x,y,u)=some (dec (x=y),()):=by
 refine Ret.tells ?_;unfold F_142;obtain ⟨x0,x1,x2,ux⟩:=x;obtain ⟨y0,y1,y2,uy⟩:=y;dsimp only;refine ri ?_ ?_ <;> intro g0
 .exact ra (q7.2 (fun h=>g0 (congrArg (fun z=>z.1) h)))
 refine ri ?_ ?_ <;> intro g1
 .exact ra (q7.2 (fun h=>g1 (congrArg (fun z=>z.2.1) h)))
 refine rb (q63 hN x2 y2 (hs.2) ()) (re ?_ ?_) <;> intro g2
 .exact ra (q7.2 (fun h=>g2 (congrArg (fun z=>z.2.2.1) h)))
 subst g0 g1 g2;exact ra (q20.2 rfl)
theorem q478{N:Nat}(hN:HN N)(x y:List DInstance)(hs:x.length<4000000/\∀ e0∈x,(e0.1.size<4000000)/\(e0.2.2.1.length<4000000))(u:Unit):F_143 N (x,y,u)=some (dec (x=y),()):=by unfold F_143;exact q110 (fun e f=>F_142 N (e,f,())) (fun e he f _=>q547 hN e f (hs.2 e he) ()) (hs.1) hN
theorem q630{N:Nat}(hN:HN N)(x y:List (ByteArray))(hs:x.length<4000000/\∀ e0∈x,e0.size<4000000)(u:Unit):F_144 N (x,y,u)=some (dec (x=y),()):=by unfold F_144;exact q469 (hs.1) hN
theorem q775{N:Nat}(hN:HN N)(x y:DPort)(hs:(x.1.size<4000000))(u:Unit):F_145 N (x,y,u)=some (dec (x=y),()):=by
 refine Ret.tells ?_;unfold F_145;obtain ⟨x0,x1,x2,ux⟩:=x;obtain ⟨y0,y1,y2,uy⟩:=y;dsimp only;refine ri ?_ ?_ <;> intro g0
 .exact ra (q7.2 (fun h=>g0 (congrArg (fun z=>z.1) h)))
 refine ri ?_ ?_ <;> intro g1
 .exact ra (q7.2 (fun h=>g1 (congrArg (fun z=>z.2.1) h)))
 refine ri ?_ ?_ <;> intro g2
 .exact ra (q7.2 (fun h=>g2 (congrArg (fun z=>z.2.2.1) h)))
 subst g0 g1 g2;exact ra (q20.2 rfl)
theorem q757{N:Nat}(hN:HN N)(x y:List DPort)(hs:x.length<4000000/\∀ e0∈x,(e0.1.size<4000000))(u:Unit):F_146 N (x,y,u)=some (dec (x=y),()):=by unfold F_146;exact q110 (fun e f=>F_145 N (e,f,())) (fun e he f _=>q775 hN e f (hs.2 e he) ()) (hs.1) hN
theorem q685{N:Nat}(hN:HN N)(x y:DDesign)(hs:(x.1.length<4000000/\∀ e0∈x.1,(e0.1.size<4000000)/\(e0.2.2.1.length<4000000))/\(x.2.1.length<4000000/\∀ e0∈x.2.1,e0.size<4000000)/\(x.2.2.1.length<4000000/\∀ e0∈x.2.2.1,(e0.1.size<4000000)))(u:Unit):F_147 N (x,y,u)=some (dec (x=y),()):=by
 refine Ret.tells ?_;unfold F_147;obtain ⟨x0,x1,x2,ux⟩:=x;obtain ⟨y0,y1,y2,uy⟩:=y;dsimp only;refine rb (q478 hN x0 y0 (hs.1) ()) (re ?_ ?_) <;> intro g0
 .exact ra (q7.2 (fun h=>g0 (congrArg (fun z=>z.1) h)))
 refine rb (q630 hN x1 y1 (hs.2.1) ()) (re ?_ ?_) <;> intro g1
 .exact ra (q7.2 (fun h=>g1 (congrArg (fun z=>z.2.1) h)))
 refine rb (q757 hN x2 y2 (hs.2.2) ()) (re ?_ ?_) <;> intro g2
 .exact ra (q7.2 (fun h=>g2 (congrArg (fun z=>z.2.2.1) h)))
 subst g0 g1 g2;exact ra (q20.2 rfl)
theorem q762{N:Nat}(hN:HN N)(x y:DWire)(hs:(x.1.length<4000000)/\(x.2.1.length<4000000)/\(x.2.2.1.length<4000000)/\(x.2.2.2.1.length<4000000))(u:Unit):F_148 N (x,y,u)=some (dec (x=y),()):=by
 refine Ret.tells ?_;unfold F_148;obtain ⟨x0,x1,x2,x3,ux⟩:=x;obtain ⟨y0,y1,y2,y3,uy⟩:=y;dsimp only;refine rb (q63 hN x0 y0 (hs.1) ()) (re ?_ ?_) <;> intro g0
 .exact ra (q7.2 (fun h=>g0 (congrArg (fun z=>z.1) h)))
 refine rb (q63 hN x1 y1 (hs.2.1) ()) (re ?_ ?_) <;> intro g1
 .exact ra (q7.2 (fun h=>g1 (congrArg (fun z=>z.2.1) h)))
 refine rb (q63 hN x2 y2 (hs.2.2.1) ()) (re ?_ ?_) <;> intro g2
 .exact ra (q7.2 (fun h=>g2 (congrArg (fun z=>z.2.2.1) h)))
 refine rb (q63 hN x3 y3 (hs.2.2.2) ()) (re ?_ ?_) <;> intro g3
 .exact ra (q7.2 (fun h=>g3 (congrArg (fun z=>z.2.2.2.1) h)))
 subst g0 g1 g2 g3;exact ra (q20.2 rfl)
theorem q758{N:Nat}(hN:HN N)(x y:List DWire)(hs:x.length<4000000/\∀ e0∈x,(e0.1.length<4000000)/\(e0.2.1.length<4000000)/\(e0.2.2.1.length<4000000)/\(e0.2.2.2.1.length<4000000))(u:Unit):F_149 N (x,y,u)=some (dec (x=y),()):=by unfold F_149;exact q110 (fun e f=>F_148 N (e,f,())) (fun e he f _=>q762 hN e f (hs.2 e he) ()) (hs.1) hN
theorem q739{N:Nat}(hN:HN N)(x y:DBlock)(hs:((x.1.1.length<4000000/\∀ e0∈x.1.1,(e0.1.size<4000000)/\(e0.2.2.1.length<4000000/\∀ e1∈e0.2.2.1,(e1.1.size<4000000))/\(e0.2.2.2.1.length<4000000/\∀ e1∈e0.2.2.2.1,(e1.2.2.2.2.1.length<4000000/\∀ e2∈e1.2.2.2.2.1,(e2.1.length<4000000)/\(e2.2.1.length<4000000)/\(e2.2.2.1.length<4000000))/\(e1.2.2.2.2.2.1.length<4000000/\∀ e2∈e1.2.2.2.2.2.1,(e2.1.length<4000000)/\(e2.2.1.length<4000000)/\(e2.2.2.1.length<4000000)))/\(e0.2.2.2.2.1.length<4000000)))/\((x.2.1.1.length<4000000/\∀ e0∈x.2.1.1,(e0.1.size<4000000)/\(e0.2.2.1.length<4000000))/\(x.2.1.2.1.length<4000000/\∀ e0∈x.2.1.2.1,e0.size<4000000)/\(x.2.1.2.2.1.length<4000000/\∀ e0∈x.2.1.2.2.1,(e0.1.size<4000000)))/\(x.2.2.1.length<4000000/\∀ e0∈x.2.2.1,(e0.1.length<4000000)/\(e0.2.1.length<4000000)/\(e0.2.2.1.length<4000000)/\(e0.2.2.2.1.length<4000000)))(u:Unit):F_150 N (x,y,u)=some (dec (x=y),()):=by
 refine Ret.tells ?_;unfold F_150;obtain ⟨x0,x1,x2,ux⟩:=x;obtain ⟨y0,y1,y2,uy⟩:=y;dsimp only;refine rb (q635 hN x0 y0 (hs.1) ()) (re ?_ ?_) <;> intro g0
 .exact ra (q7.2 (fun h=>g0 (congrArg (fun z=>z.1) h)))
 refine rb (q685 hN x1 y1 (hs.2.1) ()) (re ?_ ?_) <;> intro g1
 .exact ra (q7.2 (fun h=>g1 (congrArg (fun z=>z.2.1) h)))
 refine rb (q758 hN x2 y2 (hs.2.2) ()) (re ?_ ?_) <;> intro g2
 .exact ra (q7.2 (fun h=>g2 (congrArg (fun z=>z.2.2.1) h)))
 subst g0 g1 g2;exact ra (q20.2 rfl)
end Go.Proofs.YtdgabcjahjmdoaaGreatDoor
