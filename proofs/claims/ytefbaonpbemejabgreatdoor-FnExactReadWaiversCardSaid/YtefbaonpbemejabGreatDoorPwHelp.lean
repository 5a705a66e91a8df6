/- The laws' own helpers: what they return. Printed by my lawgen.py. No program in sight. -/
import Derived.Test.YtefbaonpbemejabGreatDoorPvF1
import Derived.Test.YtefbaonpbemejabGreatDoorPgF
namespace Go.Proofs.YtefbaonpbemejabGreatDoor
set_option linter.unusedSimpArgs false
set_option linter.unusedVariables false
theorem to_Pin{N:Nat}(hN:HN N)(x:DPin)(hs:(x.1.size<4000000))(u:Unit):F_19 N (x,u)=some (x,()):=by unfold F_19;rfl
theorem q866{N:Nat}(hN:HN N)(x:List DPin)(hs:x.length<4000000/\∀ e0∈x,(e0.1.size<4000000))(u:Unit):F_20 N (x,u)=some (x,()):=by unfold F_20;have hl:=hs.1;refine (q84 hl).trans ?_;exact q152 _ (fun e=>F_19 N (e,())) (fun e he=>to_Pin hN e (hs.2 e he) ()) hl hN
theorem q101{N:Nat}(hN:HN N)(x:List (Int))(hs:x.length<4000000)(u:Unit):F_21 N (x,u)=some (x,()):=by unfold F_21;have hl:=hs;refine (q84 hl).trans ?_;exact q756 _ hl hN
theorem q832{N:Nat}(hN:HN N)(x:DTable)(hs:(x.1.length<4000000)/\(x.2.1.length<4000000)/\(x.2.2.1.length<4000000))(u:Unit):F_22 N (x,u)=some (x,()):=by unfold F_22;refine (q28 (q101 hN x.1 (hs.1) ())).trans ?_;refine (q28 (q101 hN x.2.1 (hs.2.1) ())).trans ?_;refine (q28 (q101 hN x.2.2.1 (hs.2.2) ())).trans ?_;rfl
theorem q540{N:Nat}(hN:HN N)(x:List DTable)(hs:x.length<4000000/\∀ e0∈x,(e0.1.length<4000000)/\(e0.2.1.length<4000000)/\(e0.2.2.1.length<4000000))(u:Unit):F_23 N (x,u)=some (x,()):=by unfold F_23;have hl:=hs.1;refine (q84 hl).trans ?_;exact q152 _ (fun e=>F_22 N (e,())) (fun e he=>q832 hN e (hs.2 e he) ()) hl hN
theorem to_Arc{N:Nat}(hN:HN N)(x:DArc)(hs:(x.2.2.2.2.1.length<4000000/\∀ e0∈x.2.2.2.2.1,(e0.1.length<4000000)/\(e0.2.1.length<4000000)/\(e0.2.2.1.length<4000000))/\(x.2.2.2.2.2.1.length<4000000/\∀ e0∈x.2.2.2.2.2.1,(e0.1.length<4000000)/\(e0.2.1.length<4000000)/\(e0.2.2.1.length<4000000)))(u:Unit):F_24 N (x,u)=some (x,()):=by unfold F_24;refine (q28 (q540 hN x.2.2.2.2.1 (hs.1) ())).trans ?_;refine (q28 (q540 hN x.2.2.2.2.2.1 (hs.2) ())).trans ?_;rfl
theorem q860{N:Nat}(hN:HN N)(x:List DArc)(hs:x.length<4000000/\∀ e0∈x,(e0.2.2.2.2.1.length<4000000/\∀ e1∈e0.2.2.2.2.1,(e1.1.length<4000000)/\(e1.2.1.length<4000000)/\(e1.2.2.1.length<4000000))/\(e0.2.2.2.2.2.1.length<4000000/\∀ e1∈e0.2.2.2.2.2.1,(e1.1.length<4000000)/\(e1.2.1.length<4000000)/\(e1.2.2.1.length<4000000)))(u:Unit):F_25 N (x,u)=some (x,()):=by unfold F_25;have hl:=hs.1;refine (q84 hl).trans ?_;exact q152 _ (fun e=>F_24 N (e,())) (fun e he=>to_Arc hN e (hs.2 e he) ()) hl hN
theorem q864{N:Nat}(hN:HN N)(x:DCell)(hs:(x.1.size<4000000)/\(x.2.2.1.length<4000000/\∀ e0∈x.2.2.1,(e0.1.size<4000000))/\(x.2.2.2.1.length<4000000/\∀ e0∈x.2.2.2.1,(e0.2.2.2.2.1.length<4000000/\∀ e1∈e0.2.2.2.2.1,(e1.1.length<4000000)/\(e1.2.1.length<4000000)/\(e1.2.2.1.length<4000000))/\(e0.2.2.2.2.2.1.length<4000000/\∀ e1∈e0.2.2.2.2.2.1,(e1.1.length<4000000)/\(e1.2.1.length<4000000)/\(e1.2.2.1.length<4000000)))/\(x.2.2.2.2.1.length<4000000))(u:Unit):F_26 N (x,u)=some (x,()):=by unfold F_26;refine (q28 (q866 hN x.2.2.1 (hs.2.1) ())).trans ?_;refine (q28 (q860 hN x.2.2.2.1 (hs.2.2.1) ())).trans ?_;refine (q28 (q101 hN x.2.2.2.2.1 (hs.2.2.2) ())).trans ?_;rfl
theorem q816{N:Nat}(hN:HN N)(x:List DCell)(hs:x.length<4000000/\∀ e0∈x,(e0.1.size<4000000)/\(e0.2.2.1.length<4000000/\∀ e1∈e0.2.2.1,(e1.1.size<4000000))/\(e0.2.2.2.1.length<4000000/\∀ e1∈e0.2.2.2.1,(e1.2.2.2.2.1.length<4000000/\∀ e2∈e1.2.2.2.2.1,(e2.1.length<4000000)/\(e2.2.1.length<4000000)/\(e2.2.2.1.length<4000000))/\(e1.2.2.2.2.2.1.length<4000000/\∀ e2∈e1.2.2.2.2.2.1,(e2.1.length<4000000)/\(e2.2.1.length<4000000)/\(e2.2.2.1.length<4000000)))/\(e0.2.2.2.2.1.length<4000000))(u:Unit):F_27 N (x,u)=some (x,()):=by unfold F_27;have hl:=hs.1;refine (q84 hl).trans ?_;exact q152 _ (fun e=>F_26 N (e,())) (fun e he=>q864 hN e (hs.2 e he) ()) hl hN
theorem q703{N:Nat}(hN:HN N)(x:DLibrary)(hs:(x.1.length<4000000/\∀ e0∈x.1,(e0.1.size<4000000)/\(e0.2.2.1.length<4000000/\∀ e1∈e0.2.2.1,(e1.1.size<4000000))/\(e0.2.2.2.1.length<4000000/\∀ e1∈e0.2.2.2.1,(e1.2.2.2.2.1.length<4000000/\∀ e2∈e1.2.2.2.2.1,(e2.1.length<4000000)/\(e2.2.1.length<4000000)/\(e2.2.2.1.length<4000000))/\(e1.2.2.2.2.2.1.length<4000000/\∀ e2∈e1.2.2.2.2.2.1,(e2.1.length<4000000)/\(e2.2.1.length<4000000)/\(e2.2.2.1.length<4000000)))/\(e0.2.2.2.2.1.length<4000000)))(u:Unit):F_28 N (x,u)=some (x,()):=by unfold F_28;refine (q28 (q816 hN x.1 (hs) ())).trans ?_;rfl
theorem q606{N:Nat}(hN:HN N)(x:DInstance)(hs:(x.1.size<4000000)/\(x.2.2.1.length<4000000))(u:Unit):F_29 N (x,u)=some (x,()):=by unfold F_29;refine (q28 (q101 hN x.2.2.1 (hs.2) ())).trans ?_;rfl
theorem q527{N:Nat}(hN:HN N)(x:List DInstance)(hs:x.length<4000000/\∀ e0∈x,(e0.1.size<4000000)/\(e0.2.2.1.length<4000000))(u:Unit):F_30 N (x,u)=some (x,()):=by unfold F_30;have hl:=hs.1;refine (q84 hl).trans ?_;exact q152 _ (fun e=>F_29 N (e,())) (fun e he=>q606 hN e (hs.2 e he) ()) hl hN
theorem q706{N:Nat}(hN:HN N)(x:List (ByteArray))(hs:x.length<4000000/\∀ e0∈x,e0.size<4000000)(u:Unit):F_31 N (x,u)=some (x,()):=by unfold F_31;have hl:=hs.1;refine (q84 hl).trans ?_;exact q756 _ hl hN
theorem q856{N:Nat}(hN:HN N)(x:DPort)(hs:(x.1.size<4000000))(u:Unit):F_32 N (x,u)=some (x,()):=by unfold F_32;rfl
theorem q833{N:Nat}(hN:HN N)(x:List DPort)(hs:x.length<4000000/\∀ e0∈x,(e0.1.size<4000000))(u:Unit):F_33 N (x,u)=some (x,()):=by unfold F_33;have hl:=hs.1;refine (q84 hl).trans ?_;exact q152 _ (fun e=>F_32 N (e,())) (fun e he=>q856 hN e (hs.2 e he) ()) hl hN
theorem q733{N:Nat}(hN:HN N)(x:DDesign)(hs:(x.1.length<4000000/\∀ e0∈x.1,(e0.1.size<4000000)/\(e0.2.2.1.length<4000000))/\(x.2.1.length<4000000/\∀ e0∈x.2.1,e0.size<4000000)/\(x.2.2.1.length<4000000/\∀ e0∈x.2.2.1,(e0.1.size<4000000)))(u:Unit):F_34 N (x,u)=some (x,()):=by unfold F_34;refine (q28 (q527 hN x.1 (hs.1) ())).trans ?_;refine (q28 (q706 hN x.2.1 (hs.2.1) ())).trans ?_;refine (q28 (q833 hN x.2.2.1 (hs.2.2) ())).trans ?_;rfl
theorem q854{N:Nat}(hN:HN N)(x:DWire)(hs:(x.1.length<4000000)/\(x.2.1.length<4000000)/\(x.2.2.1.length<4000000)/\(x.2.2.2.1.length<4000000))(u:Unit):F_35 N (x,u)=some (x,()):=by unfold F_35;refine (q28 (q101 hN x.1 (hs.1) ())).trans ?_;refine (q28 (q101 hN x.2.1 (hs.2.1) ())).trans ?_;refine (q28 (q101 hN x.2.2.1 (hs.2.2.1) ())).trans ?_;refine (q28 (q101 hN x.2.2.2.1 (hs.2.2.2) ())).trans ?_;rfl
theorem q807{N:Nat}(hN:HN N)(x:List DWire)(hs:x.length<4000000/\∀ e0∈x,(e0.1.length<4000000)/\(e0.2.1.length<4000000)/\(e0.2.2.1.length<4000000)/\(e0.2.2.2.1.length<4000000))(u:Unit):F_36 N (x,u)=some (x,()):=by unfold F_36;have hl:=hs.1;refine (q84 hl).trans ?_;exact q152 _ (fun e=>F_35 N (e,())) (fun e he=>q854 hN e (hs.2 e he) ()) hl hN
theorem q374{N:Nat}(hN:HN N)(x:DBlock)(hs:((x.1.1.length<4000000/\∀ e0∈x.1.1,(e0.1.size<4000000)/\(e0.2.2.1.length<4000000/\∀ e1∈e0.2.2.1,(e1.1.size<4000000))/\(e0.2.2.2.1.length<4000000/\∀ e1∈e0.2.2.2.1,(e1.2.2.2.2.1.length<4000000/\∀ e2∈e1.2.2.2.2.1,(e2.1.length<4000000)/\(e2.2.1.length<4000000)/\(e2.2.2.1.length<4000000))/\(e1.2.2.2.2.2.1.length<4000000/\∀ e2∈e1.2.2.2.2.2.1,(e2.1.length<4000000)/\(e2.2.1.length<4000000)/\(e2.2.2.1.length<4000000)))/\(e0.2.2.2.2.1.length<4000000)))/\((x.2.1.1.length<4000000/\∀ e0∈x.2.1.1,(e0.1.size<4000000)/\(e0.2.2.1.length<4000000))/\(x.2.1.2.1.length<4000000/\∀ e0∈x.2.1.2.1,e0.size<4000000)/\(x.2.1.2.2.1.length<4000000/\∀ e0∈x.2.1.2.2.1,(e0.1.size<4000000)))/\(x.2.2.1.length<4000000/\∀ e0∈x.2.2.1,(e0.1.length<4000000)/\(e0.2.1.length<4000000)/\(e0.2.2.1.length<4000000)/\(e0.2.2.2.1.length<4000000)))(u:Unit):F_37 N (x,u)=some (x,()):=by unfold F_37;refine (q28 (q703 hN x.1 (hs.1) ())).trans ?_;refine (q28 (q733 hN x.2.1 (hs.2.1) ())).trans ?_;refine (q28 (q807 hN x.2.2.1 (hs.2.2) ())).trans ?_;rfl
theorem q729{N:Nat}(hN:HN N)(x y:DWaiver)(hs:(x.2.2.2.2.1.size<4000000))(u:Unit):F_167 N (x,y,u)=some (dec (x=y),()):=by
 refine Ret.tells ?_;unfold F_167;obtain ⟨x0,x1,x2,x3,x4,ux⟩:=x;obtain ⟨y0,y1,y2,y3,y4,uy⟩:=y;dsimp only;refine rk ?_ ?_ <;> intro g0
 .exact ra (q9.2 (fun h=>g0 (congrArg (fun z=>z.1) h)))
 refine rk ?_ ?_ <;> intro g1
 .exact ra (q9.2 (fun h=>g1 (congrArg (fun z=>z.2.1) h)))
 refine rk ?_ ?_ <;> intro g2
 .exact ra (q9.2 (fun h=>g2 (congrArg (fun z=>z.2.2.1) h)))
 refine rk ?_ ?_ <;> intro g3
 .exact ra (q9.2 (fun h=>g3 (congrArg (fun z=>z.2.2.2.1) h)))
 refine rk ?_ ?_ <;> intro g4
 .exact ra (q9.2 (fun h=>g4 (congrArg (fun z=>z.2.2.2.2.1) h)))
 subst g0 g1 g2 g3 g4;exact ra (q20.2 rfl)
theorem q325{N:Nat}(hN:HN N)(x y:List DWaiver)(hs:x.length<4000000/\∀ e0∈x,(e0.2.2.2.2.1.size<4000000))(u:Unit):F_168 N (x,y,u)=some (dec (x=y),()):=by unfold F_168;exact q106 (fun e f=>F_167 N (e,f,())) (fun e he f _=>q729 hN e f (hs.2 e he) ()) (hs.1) hN
theorem eq_Pin{N:Nat}(hN:HN N)(x y:DPin)(hs:(x.1.size<4000000))(u:Unit):F_169 N (x,y,u)=some (dec (x=y),()):=by
 refine Ret.tells ?_;unfold F_169;obtain ⟨x0,x1,x2,x3,ux⟩:=x;obtain ⟨y0,y1,y2,y3,uy⟩:=y;dsimp only;refine rk ?_ ?_ <;> intro g0
 .exact ra (q9.2 (fun h=>g0 (congrArg (fun z=>z.1) h)))
 refine rk ?_ ?_ <;> intro g1
 .exact ra (q9.2 (fun h=>g1 (congrArg (fun z=>z.2.1) h)))
 refine rk ?_ ?_ <;> intro g2
 .exact ra (q9.2 (fun h=>g2 (congrArg (fun z=>z.2.2.1) h)))
 refine ru ?_ ?_ <;> intro g3
 .exact ra (q9.2 fun h=>by have e:=congrArg (fun z=>z.2.2.2.1) h; dsimp only at e; subst e; simp at g3)
 have g3:x3=y3:=by simpa using g3
 subst g0 g1 g2 g3;exact ra (q20.2 rfl)
theorem q868{N:Nat}(hN:HN N)(x y:List DPin)(hs:x.length<4000000/\∀ e0∈x,(e0.1.size<4000000))(u:Unit):F_170 N (x,y,u)=some (dec (x=y),()):=by unfold F_170;exact q106 (fun e f=>F_169 N (e,f,())) (fun e he f _=>eq_Pin hN e f (hs.2 e he) ()) (hs.1) hN
theorem q109{N:Nat}(hN:HN N)(x y:List (Int))(hs:x.length<4000000)(u:Unit):F_171 N (x,y,u)=some (dec (x=y),()):=by unfold F_171;exact q515 (hs) hN
theorem q804{N:Nat}(hN:HN N)(x y:DTable)(hs:(x.1.length<4000000)/\(x.2.1.length<4000000)/\(x.2.2.1.length<4000000))(u:Unit):F_172 N (x,y,u)=some (dec (x=y),()):=by
 refine Ret.tells ?_;unfold F_172;obtain ⟨x0,x1,x2,ux⟩:=x;obtain ⟨y0,y1,y2,uy⟩:=y;dsimp only;refine rb (q109 hN x0 y0 (hs.1) ()) (rh ?_ ?_) <;> intro g0
 .exact ra (q9.2 (fun h=>g0 (congrArg (fun z=>z.1) h)))
 refine rb (q109 hN x1 y1 (hs.2.1) ()) (rh ?_ ?_) <;> intro g1
 .exact ra (q9.2 (fun h=>g1 (congrArg (fun z=>z.2.1) h)))
 refine rb (q109 hN x2 y2 (hs.2.2) ()) (rh ?_ ?_) <;> intro g2
 .exact ra (q9.2 (fun h=>g2 (congrArg (fun z=>z.2.2.1) h)))
 subst g0 g1 g2;exact ra (q20.2 rfl)
theorem q519{N:Nat}(hN:HN N)(x y:List DTable)(hs:x.length<4000000/\∀ e0∈x,(e0.1.length<4000000)/\(e0.2.1.length<4000000)/\(e0.2.2.1.length<4000000))(u:Unit):F_173 N (x,y,u)=some (dec (x=y),()):=by unfold F_173;exact q106 (fun e f=>F_172 N (e,f,())) (fun e he f _=>q804 hN e f (hs.2 e he) ()) (hs.1) hN
theorem eq_Arc{N:Nat}(hN:HN N)(x y:DArc)(hs:(x.2.2.2.2.1.length<4000000/\∀ e0∈x.2.2.2.2.1,(e0.1.length<4000000)/\(e0.2.1.length<4000000)/\(e0.2.2.1.length<4000000))/\(x.2.2.2.2.2.1.length<4000000/\∀ e0∈x.2.2.2.2.2.1,(e0.1.length<4000000)/\(e0.2.1.length<4000000)/\(e0.2.2.1.length<4000000)))(u:Unit):F_174 N (x,y,u)=some (dec (x=y),()):=by
 refine Ret.tells ?_;unfold F_174;obtain ⟨x0,x1,x2,x3,x4,x5,ux⟩:=x;obtain ⟨y0,y1,y2,y3,y4,y5,uy⟩:=y;dsimp only;refine rk ?_ ?_ <;> intro g0
 .exact ra (q9.2 (fun h=>g0 (congrArg (fun z=>z.1) h)))
 refine rk ?_ ?_ <;> intro g1
 .exact ra (q9.2 (fun h=>g1 (congrArg (fun z=>z.2.1) h)))
 refine rk ?_ ?_ <;> intro g2
 .exact ra (q9.2 (fun h=>g2 (congrArg (fun z=>z.2.2.1) h)))
 refine rk ?_ ?_ <;> intro g3
 .exact ra (q9.2 (fun h=>g3 (congrArg (fun z=>z.2.2.2.1) h)))
 refine rb (q519 hN x4 y4 (hs.1) ()) (rh ?_ ?_) <;> intro g4
 .exact ra (q9.2 (fun h=>g4 (congrArg (fun z=>z.2.2.2.2.1) h)))
 refine rb (q519 hN x5 y5 (hs.2) ()) (rh ?_ ?_) <;> intro g5
 .exact ra (q9.2 (fun h=>g5 (congrArg (fun z=>z.2.2.2.2.2.1) h)))
 subst g0 g1 g2 g3 g4 g5;exact ra (q20.2 rfl)
theorem q862{N:Nat}(hN:HN N)(x y:List DArc)(hs:x.length<4000000/\∀ e0∈x,(e0.2.2.2.2.1.length<4000000/\∀ e1∈e0.2.2.2.2.1,(e1.1.length<4000000)/\(e1.2.1.length<4000000)/\(e1.2.2.1.length<4000000))/\(e0.2.2.2.2.2.1.length<4000000/\∀ e1∈e0.2.2.2.2.2.1,(e1.1.length<4000000)/\(e1.2.1.length<4000000)/\(e1.2.2.1.length<4000000)))(u:Unit):F_175 N (x,y,u)=some (dec (x=y),()):=by unfold F_175;exact q106 (fun e f=>F_174 N (e,f,())) (fun e he f _=>eq_Arc hN e f (hs.2 e he) ()) (hs.1) hN
theorem q869{N:Nat}(hN:HN N)(x y:DCell)(hs:(x.1.size<4000000)/\(x.2.2.1.length<4000000/\∀ e0∈x.2.2.1,(e0.1.size<4000000))/\(x.2.2.2.1.length<4000000/\∀ e0∈x.2.2.2.1,(e0.2.2.2.2.1.length<4000000/\∀ e1∈e0.2.2.2.2.1,(e1.1.length<4000000)/\(e1.2.1.length<4000000)/\(e1.2.2.1.length<4000000))/\(e0.2.2.2.2.2.1.length<4000000/\∀ e1∈e0.2.2.2.2.2.1,(e1.1.length<4000000)/\(e1.2.1.length<4000000)/\(e1.2.2.1.length<4000000)))/\(x.2.2.2.2.1.length<4000000))(u:Unit):F_176 N (x,y,u)=some (dec (x=y),()):=by
 refine Ret.tells ?_;unfold F_176;obtain ⟨x0,x1,x2,x3,x4,x5,x6,ux⟩:=x;obtain ⟨y0,y1,y2,y3,y4,y5,y6,uy⟩:=y;dsimp only;refine rk ?_ ?_ <;> intro g0
 .exact ra (q9.2 (fun h=>g0 (congrArg (fun z=>z.1) h)))
 refine rk ?_ ?_ <;> intro g1
 .exact ra (q9.2 (fun h=>g1 (congrArg (fun z=>z.2.1) h)))
 refine rb (q868 hN x2 y2 (hs.2.1) ()) (rh ?_ ?_) <;> intro g2
 .exact ra (q9.2 (fun h=>g2 (congrArg (fun z=>z.2.2.1) h)))
 refine rb (q862 hN x3 y3 (hs.2.2.1) ()) (rh ?_ ?_) <;> intro g3
 .exact ra (q9.2 (fun h=>g3 (congrArg (fun z=>z.2.2.2.1) h)))
 refine rb (q109 hN x4 y4 (hs.2.2.2) ()) (rh ?_ ?_) <;> intro g4
 .exact ra (q9.2 (fun h=>g4 (congrArg (fun z=>z.2.2.2.2.1) h)))
 refine rk ?_ ?_ <;> intro g5
 .exact ra (q9.2 (fun h=>g5 (congrArg (fun z=>z.2.2.2.2.2.1) h)))
 refine rk ?_ ?_ <;> intro g6
 .exact ra (q9.2 (fun h=>g6 (congrArg (fun z=>z.2.2.2.2.2.2.1) h)))
 subst g0 g1 g2 g3 g4 g5 g6;exact ra (q20.2 rfl)
theorem q810{N:Nat}(hN:HN N)(x y:List DCell)(hs:x.length<4000000/\∀ e0∈x,(e0.1.size<4000000)/\(e0.2.2.1.length<4000000/\∀ e1∈e0.2.2.1,(e1.1.size<4000000))/\(e0.2.2.2.1.length<4000000/\∀ e1∈e0.2.2.2.1,(e1.2.2.2.2.1.length<4000000/\∀ e2∈e1.2.2.2.2.1,(e2.1.length<4000000)/\(e2.2.1.length<4000000)/\(e2.2.2.1.length<4000000))/\(e1.2.2.2.2.2.1.length<4000000/\∀ e2∈e1.2.2.2.2.2.1,(e2.1.length<4000000)/\(e2.2.1.length<4000000)/\(e2.2.2.1.length<4000000)))/\(e0.2.2.2.2.1.length<4000000))(u:Unit):F_177 N (x,y,u)=some (dec (x=y),()):=by unfold F_177;exact q106 (fun e f=>F_176 N (e,f,())) (fun e he f _=>q869 hN e f (hs.2 e he) ()) (hs.1) hN
theorem q707{N:Nat}(hN:HN N)(x y:DLibrary)(hs:(x.1.length<4000000/\∀ e0∈x.1,(e0.1.size<4000000)/\(e0.2.2.1.length<4000000/\∀ e1∈e0.2.2.1,(e1.1.size<4000000))/\(e0.2.2.2.1.length<4000000/\∀ e1∈e0.2.2.2.1,(e1.2.2.2.2.1.length<4000000/\∀ e2∈e1.2.2.2.2.1,(e2.1.length<4000000)/\(e2.2.1.length<4000000)/\(e2.2.2.1.length<4000000))/\(e1.2.2.2.2.2.1.length<4000000/\∀ e2∈e1.2.2.2.2.2.1,(e2.1.length<4000000)/\(e2.2.1.length<4000000)/\(e2.2.2.1.length<4000000)))/\(e0.2.2.2.2.1.length<4000000)))(u:Unit):F_178 N (x,y,u)=some (dec (x=y),()):=by
 refine Ret.tells ?_;unfold F_178;obtain ⟨x0,ux⟩:=x;obtain ⟨y0,uy⟩:=y;dsimp only;refine rb (q810 hN x0 y0 (hs) ()) (rh ?_ ?_) <;> intro g0
 .exact ra (q9.2 (fun h=>g0 (congrArg (fun z=>z.1) h)))
 subst g0;exact ra (q20.2 rfl)
theorem q621{N:Nat}(hN:HN N)(x y:DInstance)(hs:(x.1.size<4000000)/\(x.2.2.1.length<4000000))(u:Unit):F_179 N (x,y,u)=some (dec (x=y),()):=by
 refine Ret.tells ?_;unfold F_179;obtain ⟨x0,x1,x2,ux⟩:=x;obtain ⟨y0,y1,y2,uy⟩:=y;dsimp only;refine rk ?_ ?_ <;> intro g0
 .exact ra (q9.2 (fun h=>g0 (congrArg (fun z=>z.1) h)))
 refine rk ?_ ?_ <;> intro g1
 .exact ra (q9.2 (fun h=>g1 (congrArg (fun z=>z.2.1) h)))
 refine rb (q109 hN x2 y2 (hs.2) ()) (rh ?_ ?_) <;> intro g2
 .exact ra (q9.2 (fun h=>g2 (congrArg (fun z=>z.2.2.1) h)))
 subst g0 g1 g2;exact ra (q20.2 rfl)
theorem q561{N:Nat}(hN:HN N)(x y:List DInstance)(hs:x.length<4000000/\∀ e0∈x,(e0.1.size<4000000)/\(e0.2.2.1.length<4000000))(u:Unit):F_180 N (x,y,u)=some (dec (x=y),()):=by unfold F_180;exact q106 (fun e f=>F_179 N (e,f,())) (fun e he f _=>q621 hN e f (hs.2 e he) ()) (hs.1) hN
theorem q685{N:Nat}(hN:HN N)(x y:List (ByteArray))(hs:x.length<4000000/\∀ e0∈x,e0.size<4000000)(u:Unit):F_181 N (x,y,u)=some (dec (x=y),()):=by unfold F_181;exact q515 (hs.1) hN
theorem q837{N:Nat}(hN:HN N)(x y:DPort)(hs:(x.1.size<4000000))(u:Unit):F_182 N (x,y,u)=some (dec (x=y),()):=by
 refine Ret.tells ?_;unfold F_182;obtain ⟨x0,x1,x2,ux⟩:=x;obtain ⟨y0,y1,y2,uy⟩:=y;dsimp only;refine rk ?_ ?_ <;> intro g0
 .exact ra (q9.2 (fun h=>g0 (congrArg (fun z=>z.1) h)))
 refine rk ?_ ?_ <;> intro g1
 .exact ra (q9.2 (fun h=>g1 (congrArg (fun z=>z.2.1) h)))
 refine rk ?_ ?_ <;> intro g2
 .exact ra (q9.2 (fun h=>g2 (congrArg (fun z=>z.2.2.1) h)))
 subst g0 g1 g2;exact ra (q20.2 rfl)
theorem q828{N:Nat}(hN:HN N)(x y:List DPort)(hs:x.length<4000000/\∀ e0∈x,(e0.1.size<4000000))(u:Unit):F_183 N (x,y,u)=some (dec (x=y),()):=by unfold F_183;exact q106 (fun e f=>F_182 N (e,f,())) (fun e he f _=>q837 hN e f (hs.2 e he) ()) (hs.1) hN
theorem q748{N:Nat}(hN:HN N)(x y:DDesign)(hs:(x.1.length<4000000/\∀ e0∈x.1,(e0.1.size<4000000)/\(e0.2.2.1.length<4000000))/\(x.2.1.length<4000000/\∀ e0∈x.2.1,e0.size<4000000)/\(x.2.2.1.length<4000000/\∀ e0∈x.2.2.1,(e0.1.size<4000000)))(u:Unit):F_184 N (x,y,u)=some (dec (x=y),()):=by
 refine Ret.tells ?_;unfold F_184;obtain ⟨x0,x1,x2,ux⟩:=x;obtain ⟨y0,y1,y2,uy⟩:=y;dsimp only;refine rb (q561 hN x0 y0 (hs.1) ()) (rh ?_ ?_) <;> intro g0
 .exact ra (q9.2 (fun h=>g0 (congrArg (fun z=>z.1) h)))
 refine rb (q685 hN x1 y1 (hs.2.1) ()) (rh ?_ ?_) <;> intro g1
 .exact ra (q9.2 (fun h=>g1 (congrArg (fun z=>z.2.1) h)))
 refine rb (q828 hN x2 y2 (hs.2.2) ()) (rh ?_ ?_) <;> intro g2
 .exact ra (q9.2 (fun h=>g2 (congrArg (fun z=>z.2.2.1) h)))
 subst g0 g1 g2;exact ra (q20.2 rfl)
theorem q873{N:Nat}(hN:HN N)(x y:DWire)(hs:(x.1.length<4000000)/\(x.2.1.length<4000000)/\(x.2.2.1.length<4000000)/\(x.2.2.2.1.length<4000000))(u:Unit):F_185 N (x,y,u)=some (dec (x=y),()):=by
 refine Ret.tells ?_;unfold F_185;obtain ⟨x0,x1,x2,x3,ux⟩:=x;obtain ⟨y0,y1,y2,y3,uy⟩:=y;dsimp only;refine rb (q109 hN x0 y0 (hs.1) ()) (rh ?_ ?_) <;> intro g0
 .exact ra (q9.2 (fun h=>g0 (congrArg (fun z=>z.1) h)))
 refine rb (q109 hN x1 y1 (hs.2.1) ()) (rh ?_ ?_) <;> intro g1
 .exact ra (q9.2 (fun h=>g1 (congrArg (fun z=>z.2.1) h)))
 refine rb (q109 hN x2 y2 (hs.2.2.1) ()) (rh ?_ ?_) <;> intro g2
 .exact ra (q9.2 (fun h=>g2 (congrArg (fun z=>z.2.2.1) h)))
 refine rb (q109 hN x3 y3 (hs.2.2.2) ()) (rh ?_ ?_) <;> intro g3
 .exact ra (q9.2 (fun h=>g3 (congrArg (fun z=>z.2.2.2.1) h)))
 subst g0 g1 g2 g3;exact ra (q20.2 rfl)
theorem q829{N:Nat}(hN:HN N)(x y:List DWire)(hs:x.length<4000000/\∀ e0∈x,(e0.1.length<4000000)/\(e0.2.1.length<4000000)/\(e0.2.2.1.length<4000000)/\(e0.2.2.2.1.length<4000000))(u:Unit):F_186 N (x,y,u)=some (dec (x=y),()):=by unfold F_186;exact q106 (fun e f=>F_185 N (e,f,())) (fun e he f _=>q873 hN e f (hs.2 e he) ()) (hs.1) hN
theorem q814{N:Nat}(hN:HN N)(x y:DBlock)(hs:((x.1.1.length<4000000/\∀ e0∈x.1.1,(e0.1.size<4000000)/\(e0.2.2.1.length<4000000/\∀ e1∈e0.2.2.1,(e1.1.size<4000000))/\(e0.2.2.2.1.length<4000000/\∀ e1∈e0.2.2.2.1,(e1.2.2.2.2.1.length<4000000/\∀ e2∈e1.2.2.2.2.1,(e2.1.length<4000000)/\(e2.2.1.length<4000000)/\(e2.2.2.1.length<4000000))/\(e1.2.2.2.2.2.1.length<4000000/\∀ e2∈e1.2.2.2.2.2.1,(e2.1.length<4000000)/\(e2.2.1.length<4000000)/\(e2.2.2.1.length<4000000)))/\(e0.2.2.2.2.1.length<4000000)))/\((x.2.1.1.length<4000000/\∀ e0∈x.2.1.1,(e0.1.size<4000000)/\(e0.2.2.1.length<4000000))/\(x.2.1.2.1.length<4000000/\∀ e0∈x.2.1.2.1,e0.size<4000000)/\(x.2.1.2.2.1.length<4000000/\∀ e0∈x.2.1.2.2.1,(e0.1.size<4000000)))/\(x.2.2.1.length<4000000/\∀ e0∈x.2.2.1,(e0.1.length<4000000)/\(e0.2.1.length<4000000)/\(e0.2.2.1.length<4000000)/\(e0.2.2.2.1.length<4000000)))(u:Unit):F_187 N (x,y,u)=some (dec (x=y),()):=by
 refine Ret.tells ?_;unfold F_187;obtain ⟨x0,x1,x2,ux⟩:=x;obtain ⟨y0,y1,y2,uy⟩:=y;dsimp only;refine rb (q707 hN x0 y0 (hs.1) ()) (rh ?_ ?_) <;> intro g0
 .exact ra (q9.2 (fun h=>g0 (congrArg (fun z=>z.1) h)))
 refine rb (q748 hN x1 y1 (hs.2.1) ()) (rh ?_ ?_) <;> intro g1
 .exact ra (q9.2 (fun h=>g1 (congrArg (fun z=>z.2.1) h)))
 refine rb (q829 hN x2 y2 (hs.2.2) ()) (rh ?_ ?_) <;> intro g2
 .exact ra (q9.2 (fun h=>g2 (congrArg (fun z=>z.2.2.1) h)))
 subst g0 g1 g2;exact ra (q20.2 rfl)
end Go.Proofs.YtefbaonpbemejabGreatDoor
