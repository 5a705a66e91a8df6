/- The laws' own helpers: what they return. Printed by my lawgen.py. No program in sight. -/
import Derived.Test.YtdgabcjahjmdoaaGreatDoorPvF1
import Derived.Test.YtdgabcjahjmdoaaGreatDoorPgF
namespace Go.Proofs.YtdgabcjahjmdoaaGreatDoor
set_option linter.unusedSimpArgs false
set_option linter.unusedVariables false
theorem to_Pin{N:Nat}(hN:HN N)(x:DPin)(hs:(x.1.size<4000000))(u:Unit):F_22 N (x,u)=some (x,()):=by unfold F_22;rfl
theorem q878{N:Nat}(hN:HN N)(x:List DPin)(hs:x.length<4000000/\∀ e0∈x,(e0.1.size<4000000))(u:Unit):F_23 N (x,u)=some (x,()):=by unfold F_23;have hl:=hs.1;refine (q66 hl).trans ?_;exact q104 _ (fun e=>F_22 N (e,())) (fun e he=>to_Pin hN e (hs.2 e he) ()) hl hN
theorem q63{N:Nat}(hN:HN N)(x:List (Int))(hs:x.length<4000000)(u:Unit):F_24 N (x,u)=some (x,()):=by unfold F_24;have hl:=hs;refine (q66 hl).trans ?_;exact q769 _ hl hN
theorem q841{N:Nat}(hN:HN N)(x:DTable)(hs:(x.1.length<4000000)/\(x.2.1.length<4000000)/\(x.2.2.1.length<4000000))(u:Unit):F_25 N (x,u)=some (x,()):=by unfold F_25;refine (q29 (q63 hN x.1 (hs.1) ())).trans ?_;refine (q29 (q63 hN x.2.1 (hs.2.1) ())).trans ?_;refine (q29 (q63 hN x.2.2.1 (hs.2.2) ())).trans ?_;rfl
theorem q547{N:Nat}(hN:HN N)(x:List DTable)(hs:x.length<4000000/\∀ e0∈x,(e0.1.length<4000000)/\(e0.2.1.length<4000000)/\(e0.2.2.1.length<4000000))(u:Unit):F_26 N (x,u)=some (x,()):=by unfold F_26;have hl:=hs.1;refine (q66 hl).trans ?_;exact q104 _ (fun e=>F_25 N (e,())) (fun e he=>q841 hN e (hs.2 e he) ()) hl hN
theorem to_Arc{N:Nat}(hN:HN N)(x:DArc)(hs:(x.2.2.2.2.1.length<4000000/\∀ e0∈x.2.2.2.2.1,(e0.1.length<4000000)/\(e0.2.1.length<4000000)/\(e0.2.2.1.length<4000000))/\(x.2.2.2.2.2.1.length<4000000/\∀ e0∈x.2.2.2.2.2.1,(e0.1.length<4000000)/\(e0.2.1.length<4000000)/\(e0.2.2.1.length<4000000)))(u:Unit):F_27 N (x,u)=some (x,()):=by unfold F_27;refine (q29 (q547 hN x.2.2.2.2.1 (hs.1) ())).trans ?_;refine (q29 (q547 hN x.2.2.2.2.2.1 (hs.2) ())).trans ?_;rfl
theorem q885{N:Nat}(hN:HN N)(x:List DArc)(hs:x.length<4000000/\∀ e0∈x,(e0.2.2.2.2.1.length<4000000/\∀ e1∈e0.2.2.2.2.1,(e1.1.length<4000000)/\(e1.2.1.length<4000000)/\(e1.2.2.1.length<4000000))/\(e0.2.2.2.2.2.1.length<4000000/\∀ e1∈e0.2.2.2.2.2.1,(e1.1.length<4000000)/\(e1.2.1.length<4000000)/\(e1.2.2.1.length<4000000)))(u:Unit):F_28 N (x,u)=some (x,()):=by unfold F_28;have hl:=hs.1;refine (q66 hl).trans ?_;exact q104 _ (fun e=>F_27 N (e,())) (fun e he=>to_Arc hN e (hs.2 e he) ()) hl hN
theorem q880{N:Nat}(hN:HN N)(x:DCell)(hs:(x.1.size<4000000)/\(x.2.2.1.length<4000000/\∀ e0∈x.2.2.1,(e0.1.size<4000000))/\(x.2.2.2.1.length<4000000/\∀ e0∈x.2.2.2.1,(e0.2.2.2.2.1.length<4000000/\∀ e1∈e0.2.2.2.2.1,(e1.1.length<4000000)/\(e1.2.1.length<4000000)/\(e1.2.2.1.length<4000000))/\(e0.2.2.2.2.2.1.length<4000000/\∀ e1∈e0.2.2.2.2.2.1,(e1.1.length<4000000)/\(e1.2.1.length<4000000)/\(e1.2.2.1.length<4000000)))/\(x.2.2.2.2.1.length<4000000))(u:Unit):F_29 N (x,u)=some (x,()):=by unfold F_29;refine (q29 (q878 hN x.2.2.1 (hs.2.1) ())).trans ?_;refine (q29 (q885 hN x.2.2.2.1 (hs.2.2.1) ())).trans ?_;refine (q29 (q63 hN x.2.2.2.2.1 (hs.2.2.2) ())).trans ?_;rfl
theorem q846{N:Nat}(hN:HN N)(x:List DCell)(hs:x.length<4000000/\∀ e0∈x,(e0.1.size<4000000)/\(e0.2.2.1.length<4000000/\∀ e1∈e0.2.2.1,(e1.1.size<4000000))/\(e0.2.2.2.1.length<4000000/\∀ e1∈e0.2.2.2.1,(e1.2.2.2.2.1.length<4000000/\∀ e2∈e1.2.2.2.2.1,(e2.1.length<4000000)/\(e2.2.1.length<4000000)/\(e2.2.2.1.length<4000000))/\(e1.2.2.2.2.2.1.length<4000000/\∀ e2∈e1.2.2.2.2.2.1,(e2.1.length<4000000)/\(e2.2.1.length<4000000)/\(e2.2.2.1.length<4000000)))/\(e0.2.2.2.2.1.length<4000000))(u:Unit):F_30 N (x,u)=some (x,()):=by unfold F_30;have hl:=hs.1;refine (q66 hl).trans ?_;exact q104 _ (fun e=>F_29 N (e,())) (fun e he=>q880 hN e (hs.2 e he) ()) hl hN
theorem q737{N:Nat}(hN:HN N)(x:DLibrary)(hs:(x.1.length<4000000/\∀ e0∈x.1,(e0.1.size<4000000)/\(e0.2.2.1.length<4000000/\∀ e1∈e0.2.2.1,(e1.1.size<4000000))/\(e0.2.2.2.1.length<4000000/\∀ e1∈e0.2.2.2.1,(e1.2.2.2.2.1.length<4000000/\∀ e2∈e1.2.2.2.2.1,(e2.1.length<4000000)/\(e2.2.1.length<4000000)/\(e2.2.2.1.length<4000000))/\(e1.2.2.2.2.2.1.length<4000000/\∀ e2∈e1.2.2.2.2.2.1,(e2.1.length<4000000)/\(e2.2.1.length<4000000)/\(e2.2.2.1.length<4000000)))/\(e0.2.2.2.2.1.length<4000000)))(u:Unit):F_31 N (x,u)=some (x,()):=by unfold F_31;refine (q29 (q846 hN x.1 (hs) ())).trans ?_;rfl
theorem q615{N:Nat}(hN:HN N)(x:DInstance)(hs:(x.1.size<4000000)/\(x.2.2.1.length<4000000))(u:Unit):F_32 N (x,u)=some (x,()):=by unfold F_32;refine (q29 (q63 hN x.2.2.1 (hs.2) ())).trans ?_;rfl
theorem q523{N:Nat}(hN:HN N)(x:List DInstance)(hs:x.length<4000000/\∀ e0∈x,(e0.1.size<4000000)/\(e0.2.2.1.length<4000000))(u:Unit):F_33 N (x,u)=some (x,()):=by unfold F_33;have hl:=hs.1;refine (q66 hl).trans ?_;exact q104 _ (fun e=>F_32 N (e,())) (fun e he=>q615 hN e (hs.2 e he) ()) hl hN
theorem q713{N:Nat}(hN:HN N)(x:List (ByteArray))(hs:x.length<4000000/\∀ e0∈x,e0.size<4000000)(u:Unit):F_34 N (x,u)=some (x,()):=by unfold F_34;have hl:=hs.1;refine (q66 hl).trans ?_;exact q769 _ hl hN
theorem q891{N:Nat}(hN:HN N)(x:DPort)(hs:(x.1.size<4000000))(u:Unit):F_35 N (x,u)=some (x,()):=by unfold F_35;rfl
theorem q850{N:Nat}(hN:HN N)(x:List DPort)(hs:x.length<4000000/\∀ e0∈x,(e0.1.size<4000000))(u:Unit):F_36 N (x,u)=some (x,()):=by unfold F_36;have hl:=hs.1;refine (q66 hl).trans ?_;exact q104 _ (fun e=>F_35 N (e,())) (fun e he=>q891 hN e (hs.2 e he) ()) hl hN
theorem q745{N:Nat}(hN:HN N)(x:DDesign)(hs:(x.1.length<4000000/\∀ e0∈x.1,(e0.1.size<4000000)/\(e0.2.2.1.length<4000000))/\(x.2.1.length<4000000/\∀ e0∈x.2.1,e0.size<4000000)/\(x.2.2.1.length<4000000/\∀ e0∈x.2.2.1,(e0.1.size<4000000)))(u:Unit):F_37 N (x,u)=some (x,()):=by unfold F_37;refine (q29 (q523 hN x.1 (hs.1) ())).trans ?_;refine (q29 (q713 hN x.2.1 (hs.2.1) ())).trans ?_;refine (q29 (q850 hN x.2.2.1 (hs.2.2) ())).trans ?_;rfl
theorem q899{N:Nat}(hN:HN N)(x:DWire)(hs:(x.1.length<4000000)/\(x.2.1.length<4000000)/\(x.2.2.1.length<4000000)/\(x.2.2.2.1.length<4000000))(u:Unit):F_38 N (x,u)=some (x,()):=by unfold F_38;refine (q29 (q63 hN x.1 (hs.1) ())).trans ?_;refine (q29 (q63 hN x.2.1 (hs.2.1) ())).trans ?_;refine (q29 (q63 hN x.2.2.1 (hs.2.2.1) ())).trans ?_;refine (q29 (q63 hN x.2.2.2.1 (hs.2.2.2) ())).trans ?_;rfl
theorem q833{N:Nat}(hN:HN N)(x:List DWire)(hs:x.length<4000000/\∀ e0∈x,(e0.1.length<4000000)/\(e0.2.1.length<4000000)/\(e0.2.2.1.length<4000000)/\(e0.2.2.2.1.length<4000000))(u:Unit):F_39 N (x,u)=some (x,()):=by unfold F_39;have hl:=hs.1;refine (q66 hl).trans ?_;exact q104 _ (fun e=>F_38 N (e,())) (fun e he=>q899 hN e (hs.2 e he) ()) hl hN
theorem q379{N:Nat}(hN:HN N)(x:DBlock)(hs:((x.1.1.length<4000000/\∀ e0∈x.1.1,(e0.1.size<4000000)/\(e0.2.2.1.length<4000000/\∀ e1∈e0.2.2.1,(e1.1.size<4000000))/\(e0.2.2.2.1.length<4000000/\∀ e1∈e0.2.2.2.1,(e1.2.2.2.2.1.length<4000000/\∀ e2∈e1.2.2.2.2.1,(e2.1.length<4000000)/\(e2.2.1.length<4000000)/\(e2.2.2.1.length<4000000))/\(e1.2.2.2.2.2.1.length<4000000/\∀ e2∈e1.2.2.2.2.2.1,(e2.1.length<4000000)/\(e2.2.1.length<4000000)/\(e2.2.2.1.length<4000000)))/\(e0.2.2.2.2.1.length<4000000)))/\((x.2.1.1.length<4000000/\∀ e0∈x.2.1.1,(e0.1.size<4000000)/\(e0.2.2.1.length<4000000))/\(x.2.1.2.1.length<4000000/\∀ e0∈x.2.1.2.1,e0.size<4000000)/\(x.2.1.2.2.1.length<4000000/\∀ e0∈x.2.1.2.2.1,(e0.1.size<4000000)))/\(x.2.2.1.length<4000000/\∀ e0∈x.2.2.1,(e0.1.length<4000000)/\(e0.2.1.length<4000000)/\(e0.2.2.1.length<4000000)/\(e0.2.2.2.1.length<4000000)))(u:Unit):F_40 N (x,u)=some (x,()):=by unfold F_40;refine (q29 (q737 hN x.1 (hs.1) ())).trans ?_;refine (q29 (q745 hN x.2.1 (hs.2.1) ())).trans ?_;refine (q29 (q833 hN x.2.2.1 (hs.2.2) ())).trans ?_;rfl
theorem q782{N:Nat}(hN:HN N)(x:DCorner)(hs:(x.1.size<4000000))(u:Unit):F_41 N (x,u)=some (x,()):=by unfold F_41;rfl
theorem q248{N:Nat}(hN:HN N)(x:List DCorner)(hs:x.length<4000000/\∀ e0∈x,(e0.1.size<4000000))(u:Unit):F_42 N (x,u)=some (x,()):=by unfold F_42;have hl:=hs.1;refine (q66 hl).trans ?_;exact q104 _ (fun e=>F_41 N (e,())) (fun e he=>q782 hN e (hs.2 e he) ()) hl hN
theorem q813{N:Nat}(hN:HN N)(x:DSpan)(hs:True)(u:Unit):F_43 N (x,u)=some (x,()):=by unfold F_43;rfl
theorem q792{N:Nat}(hN:HN N)(x:DSource)(hs:True)(u:Unit):F_44 N (x,u)=some (x,()):=by unfold F_44;refine (q29 (q813 hN x.2.1 trivial ())).trans ?_;refine (q29 (q813 hN x.2.2.1 trivial ())).trans ?_;rfl
theorem q246{N:Nat}(hN:HN N)(x:List DSource)(hs:x.length<4000000)(u:Unit):F_45 N (x,u)=some (x,()):=by unfold F_45;have hl:=hs;refine (q66 hl).trans ?_;exact q104 _ (fun e=>F_44 N (e,())) (fun e he=>q792 hN e trivial ()) hl hN
theorem q826{N:Nat}(hN:HN N)(x y:List (Bool))(hs:x.length<4000000)(u:Unit):F_223 N (x,y,u)=some (dec (x=y),()):=by unfold F_223;exact q802 (hs) hN
theorem q596{N:Nat}(hN:HN N)(x y:DSpan)(hs:True)(u:Unit):F_224 N (x,y,u)=some (dec (x=y),()):=by
 refine Ret.tells ?_;unfold F_224;obtain ⟨x0,x1,ux⟩:=x;obtain ⟨y0,y1,uy⟩:=y;dsimp only;refine rk ?_ ?_ <;> intro g0
 .exact rb (q8.2 (fun h=>g0 (congrArg (fun z=>z.1) h)))
 refine rk ?_ ?_ <;> intro g1
 .exact rb (q8.2 (fun h=>g1 (congrArg (fun z=>z.2.1) h)))
 subst g0 g1;exact rb (q18.2 rfl)
theorem q682{N:Nat}(hN:HN N)(x y:List DSpan)(hs:x.length<4000000)(u:Unit):F_225 N (x,y,u)=some (dec (x=y),()):=by unfold F_225;exact q65 (fun e f=>F_224 N (e,f,())) (fun e he f _=>q596 hN e f trivial ()) (hs) hN
theorem q764{N:Nat}(hN:HN N)(x y:DTiming)(hs:(x.1.length<4000000)/\(x.2.1.length<4000000)/\(x.2.2.1.length<4000000))(u:Unit):F_226 N (x,y,u)=some (dec (x=y),()):=by
 refine Ret.tells ?_;unfold F_226;obtain ⟨x0,x1,x2,ux⟩:=x;obtain ⟨y0,y1,y2,uy⟩:=y;dsimp only;refine ra (q826 hN x0 y0 (hs.1) ()) (rg ?_ ?_) <;> intro g0
 .exact rb (q8.2 (fun h=>g0 (congrArg (fun z=>z.1) h)))
 refine ra (q682 hN x1 y1 (hs.2.1) ()) (rg ?_ ?_) <;> intro g1
 .exact rb (q8.2 (fun h=>g1 (congrArg (fun z=>z.2.1) h)))
 refine ra (q682 hN x2 y2 (hs.2.2) ()) (rg ?_ ?_) <;> intro g2
 .exact rb (q8.2 (fun h=>g2 (congrArg (fun z=>z.2.2.1) h)))
 subst g0 g1 g2;exact rb (q18.2 rfl)
theorem q335{N:Nat}(hN:HN N)(x y:List DTiming)(hs:x.length<4000000/\∀ e0∈x,(e0.1.length<4000000)/\(e0.2.1.length<4000000)/\(e0.2.2.1.length<4000000))(u:Unit):F_227 N (x,y,u)=some (dec (x=y),()):=by unfold F_227;exact q65 (fun e f=>F_226 N (e,f,())) (fun e he f _=>q764 hN e f (hs.2 e he) ()) (hs.1) hN
theorem eq_Pin{N:Nat}(hN:HN N)(x y:DPin)(hs:(x.1.size<4000000))(u:Unit):F_228 N (x,y,u)=some (dec (x=y),()):=by
 refine Ret.tells ?_;unfold F_228;obtain ⟨x0,x1,x2,x3,ux⟩:=x;obtain ⟨y0,y1,y2,y3,uy⟩:=y;dsimp only;refine rk ?_ ?_ <;> intro g0
 .exact rb (q8.2 (fun h=>g0 (congrArg (fun z=>z.1) h)))
 refine rk ?_ ?_ <;> intro g1
 .exact rb (q8.2 (fun h=>g1 (congrArg (fun z=>z.2.1) h)))
 refine rk ?_ ?_ <;> intro g2
 .exact rb (q8.2 (fun h=>g2 (congrArg (fun z=>z.2.2.1) h)))
 refine rm ?_ ?_ <;> intro g3
 .exact rb (q8.2 fun h=>by have e:=congrArg (fun z=>z.2.2.2.1) h; dsimp only at e; subst e; simp at g3)
 have g3:x3=y3:=by simpa using g3
 subst g0 g1 g2 g3;exact rb (q18.2 rfl)
theorem q883{N:Nat}(hN:HN N)(x y:List DPin)(hs:x.length<4000000/\∀ e0∈x,(e0.1.size<4000000))(u:Unit):F_229 N (x,y,u)=some (dec (x=y),()):=by unfold F_229;exact q65 (fun e f=>F_228 N (e,f,())) (fun e he f _=>eq_Pin hN e f (hs.2 e he) ()) (hs.1) hN
theorem q91{N:Nat}(hN:HN N)(x y:List (Int))(hs:x.length<4000000)(u:Unit):F_230 N (x,y,u)=some (dec (x=y),()):=by unfold F_230;exact q558 (hs) hN
theorem q848{N:Nat}(hN:HN N)(x y:DTable)(hs:(x.1.length<4000000)/\(x.2.1.length<4000000)/\(x.2.2.1.length<4000000))(u:Unit):F_231 N (x,y,u)=some (dec (x=y),()):=by
 refine Ret.tells ?_;unfold F_231;obtain ⟨x0,x1,x2,ux⟩:=x;obtain ⟨y0,y1,y2,uy⟩:=y;dsimp only;refine ra (q91 hN x0 y0 (hs.1) ()) (rg ?_ ?_) <;> intro g0
 .exact rb (q8.2 (fun h=>g0 (congrArg (fun z=>z.1) h)))
 refine ra (q91 hN x1 y1 (hs.2.1) ()) (rg ?_ ?_) <;> intro g1
 .exact rb (q8.2 (fun h=>g1 (congrArg (fun z=>z.2.1) h)))
 refine ra (q91 hN x2 y2 (hs.2.2) ()) (rg ?_ ?_) <;> intro g2
 .exact rb (q8.2 (fun h=>g2 (congrArg (fun z=>z.2.2.1) h)))
 subst g0 g1 g2;exact rb (q18.2 rfl)
theorem q579{N:Nat}(hN:HN N)(x y:List DTable)(hs:x.length<4000000/\∀ e0∈x,(e0.1.length<4000000)/\(e0.2.1.length<4000000)/\(e0.2.2.1.length<4000000))(u:Unit):F_232 N (x,y,u)=some (dec (x=y),()):=by unfold F_232;exact q65 (fun e f=>F_231 N (e,f,())) (fun e he f _=>q848 hN e f (hs.2 e he) ()) (hs.1) hN
theorem eq_Arc{N:Nat}(hN:HN N)(x y:DArc)(hs:(x.2.2.2.2.1.length<4000000/\∀ e0∈x.2.2.2.2.1,(e0.1.length<4000000)/\(e0.2.1.length<4000000)/\(e0.2.2.1.length<4000000))/\(x.2.2.2.2.2.1.length<4000000/\∀ e0∈x.2.2.2.2.2.1,(e0.1.length<4000000)/\(e0.2.1.length<4000000)/\(e0.2.2.1.length<4000000)))(u:Unit):F_233 N (x,y,u)=some (dec (x=y),()):=by
 refine Ret.tells ?_;unfold F_233;obtain ⟨x0,x1,x2,x3,x4,x5,ux⟩:=x;obtain ⟨y0,y1,y2,y3,y4,y5,uy⟩:=y;dsimp only;refine rk ?_ ?_ <;> intro g0
 .exact rb (q8.2 (fun h=>g0 (congrArg (fun z=>z.1) h)))
 refine rk ?_ ?_ <;> intro g1
 .exact rb (q8.2 (fun h=>g1 (congrArg (fun z=>z.2.1) h)))
 refine rk ?_ ?_ <;> intro g2
 .exact rb (q8.2 (fun h=>g2 (congrArg (fun z=>z.2.2.1) h)))
 refine rk ?_ ?_ <;> intro g3
 .exact rb (q8.2 (fun h=>g3 (congrArg (fun z=>z.2.2.2.1) h)))
 refine ra (q579 hN x4 y4 (hs.1) ()) (rg ?_ ?_) <;> intro g4
 .exact rb (q8.2 (fun h=>g4 (congrArg (fun z=>z.2.2.2.2.1) h)))
 refine ra (q579 hN x5 y5 (hs.2) ()) (rg ?_ ?_) <;> intro g5
 .exact rb (q8.2 (fun h=>g5 (congrArg (fun z=>z.2.2.2.2.2.1) h)))
 subst g0 g1 g2 g3 g4 g5;exact rb (q18.2 rfl)
theorem q879{N:Nat}(hN:HN N)(x y:List DArc)(hs:x.length<4000000/\∀ e0∈x,(e0.2.2.2.2.1.length<4000000/\∀ e1∈e0.2.2.2.2.1,(e1.1.length<4000000)/\(e1.2.1.length<4000000)/\(e1.2.2.1.length<4000000))/\(e0.2.2.2.2.2.1.length<4000000/\∀ e1∈e0.2.2.2.2.2.1,(e1.1.length<4000000)/\(e1.2.1.length<4000000)/\(e1.2.2.1.length<4000000)))(u:Unit):F_234 N (x,y,u)=some (dec (x=y),()):=by unfold F_234;exact q65 (fun e f=>F_233 N (e,f,())) (fun e he f _=>eq_Arc hN e f (hs.2 e he) ()) (hs.1) hN
theorem q903{N:Nat}(hN:HN N)(x y:DCell)(hs:(x.1.size<4000000)/\(x.2.2.1.length<4000000/\∀ e0∈x.2.2.1,(e0.1.size<4000000))/\(x.2.2.2.1.length<4000000/\∀ e0∈x.2.2.2.1,(e0.2.2.2.2.1.length<4000000/\∀ e1∈e0.2.2.2.2.1,(e1.1.length<4000000)/\(e1.2.1.length<4000000)/\(e1.2.2.1.length<4000000))/\(e0.2.2.2.2.2.1.length<4000000/\∀ e1∈e0.2.2.2.2.2.1,(e1.1.length<4000000)/\(e1.2.1.length<4000000)/\(e1.2.2.1.length<4000000)))/\(x.2.2.2.2.1.length<4000000))(u:Unit):F_235 N (x,y,u)=some (dec (x=y),()):=by
 refine Ret.tells ?_;unfold F_235;obtain ⟨x0,x1,x2,x3,x4,x5,x6,ux⟩:=x;obtain ⟨y0,y1,y2,y3,y4,y5,y6,uy⟩:=y;dsimp only;refine rk ?_ ?_ <;> intro g0
 .exact rb (q8.2 (fun h=>g0 (congrArg (fun z=>z.1) h)))
 refine rk ?_ ?_ <;> intro g1
 .exact rb (q8.2 (fun h=>g1 (congrArg (fun z=>z.2.1) h)))
 refine ra (q883 hN x2 y2 (hs.2.1) ()) (rg ?_ ?_) <;> intro g2
 .exact rb (q8.2 (fun h=>g2 (congrArg (fun z=>z.2.2.1) h)))
 refine ra (q879 hN x3 y3 (hs.2.2.1) ()) (rg ?_ ?_) <;> intro g3
 .exact rb (q8.2 (fun h=>g3 (congrArg (fun z=>z.2.2.2.1) h)))
 refine ra (q91 hN x4 y4 (hs.2.2.2) ()) (rg ?_ ?_) <;> intro g4
 .exact rb (q8.2 (fun h=>g4 (congrArg (fun z=>z.2.2.2.2.1) h)))
 refine rk ?_ ?_ <;> intro g5
 .exact rb (q8.2 (fun h=>g5 (congrArg (fun z=>z.2.2.2.2.2.1) h)))
 refine rk ?_ ?_ <;> intro g6
 .exact rb (q8.2 (fun h=>g6 (congrArg (fun z=>z.2.2.2.2.2.2.1) h)))
 subst g0 g1 g2 g3 g4 g5 g6;exact rb (q18.2 rfl)
theorem q836{N:Nat}(hN:HN N)(x y:List DCell)(hs:x.length<4000000/\∀ e0∈x,(e0.1.size<4000000)/\(e0.2.2.1.length<4000000/\∀ e1∈e0.2.2.1,(e1.1.size<4000000))/\(e0.2.2.2.1.length<4000000/\∀ e1∈e0.2.2.2.1,(e1.2.2.2.2.1.length<4000000/\∀ e2∈e1.2.2.2.2.1,(e2.1.length<4000000)/\(e2.2.1.length<4000000)/\(e2.2.2.1.length<4000000))/\(e1.2.2.2.2.2.1.length<4000000/\∀ e2∈e1.2.2.2.2.2.1,(e2.1.length<4000000)/\(e2.2.1.length<4000000)/\(e2.2.2.1.length<4000000)))/\(e0.2.2.2.2.1.length<4000000))(u:Unit):F_236 N (x,y,u)=some (dec (x=y),()):=by unfold F_236;exact q65 (fun e f=>F_235 N (e,f,())) (fun e he f _=>q903 hN e f (hs.2 e he) ()) (hs.1) hN
theorem q730{N:Nat}(hN:HN N)(x y:DLibrary)(hs:(x.1.length<4000000/\∀ e0∈x.1,(e0.1.size<4000000)/\(e0.2.2.1.length<4000000/\∀ e1∈e0.2.2.1,(e1.1.size<4000000))/\(e0.2.2.2.1.length<4000000/\∀ e1∈e0.2.2.2.1,(e1.2.2.2.2.1.length<4000000/\∀ e2∈e1.2.2.2.2.1,(e2.1.length<4000000)/\(e2.2.1.length<4000000)/\(e2.2.2.1.length<4000000))/\(e1.2.2.2.2.2.1.length<4000000/\∀ e2∈e1.2.2.2.2.2.1,(e2.1.length<4000000)/\(e2.2.1.length<4000000)/\(e2.2.2.1.length<4000000)))/\(e0.2.2.2.2.1.length<4000000)))(u:Unit):F_237 N (x,y,u)=some (dec (x=y),()):=by
 refine Ret.tells ?_;unfold F_237;obtain ⟨x0,ux⟩:=x;obtain ⟨y0,uy⟩:=y;dsimp only;refine ra (q836 hN x0 y0 (hs) ()) (rg ?_ ?_) <;> intro g0
 .exact rb (q8.2 (fun h=>g0 (congrArg (fun z=>z.1) h)))
 subst g0;exact rb (q18.2 rfl)
theorem q611{N:Nat}(hN:HN N)(x y:DInstance)(hs:(x.1.size<4000000)/\(x.2.2.1.length<4000000))(u:Unit):F_238 N (x,y,u)=some (dec (x=y),()):=by
 refine Ret.tells ?_;unfold F_238;obtain ⟨x0,x1,x2,ux⟩:=x;obtain ⟨y0,y1,y2,uy⟩:=y;dsimp only;refine rk ?_ ?_ <;> intro g0
 .exact rb (q8.2 (fun h=>g0 (congrArg (fun z=>z.1) h)))
 refine rk ?_ ?_ <;> intro g1
 .exact rb (q8.2 (fun h=>g1 (congrArg (fun z=>z.2.1) h)))
 refine ra (q91 hN x2 y2 (hs.2) ()) (rg ?_ ?_) <;> intro g2
 .exact rb (q8.2 (fun h=>g2 (congrArg (fun z=>z.2.2.1) h)))
 subst g0 g1 g2;exact rb (q18.2 rfl)
theorem q581{N:Nat}(hN:HN N)(x y:List DInstance)(hs:x.length<4000000/\∀ e0∈x,(e0.1.size<4000000)/\(e0.2.2.1.length<4000000))(u:Unit):F_239 N (x,y,u)=some (dec (x=y),()):=by unfold F_239;exact q65 (fun e f=>F_238 N (e,f,())) (fun e he f _=>q611 hN e f (hs.2 e he) ()) (hs.1) hN
theorem q734{N:Nat}(hN:HN N)(x y:List (ByteArray))(hs:x.length<4000000/\∀ e0∈x,e0.size<4000000)(u:Unit):F_240 N (x,y,u)=some (dec (x=y),()):=by unfold F_240;exact q558 (hs.1) hN
theorem q888{N:Nat}(hN:HN N)(x y:DPort)(hs:(x.1.size<4000000))(u:Unit):F_241 N (x,y,u)=some (dec (x=y),()):=by
 refine Ret.tells ?_;unfold F_241;obtain ⟨x0,x1,x2,ux⟩:=x;obtain ⟨y0,y1,y2,uy⟩:=y;dsimp only;refine rk ?_ ?_ <;> intro g0
 .exact rb (q8.2 (fun h=>g0 (congrArg (fun z=>z.1) h)))
 refine rk ?_ ?_ <;> intro g1
 .exact rb (q8.2 (fun h=>g1 (congrArg (fun z=>z.2.1) h)))
 refine rk ?_ ?_ <;> intro g2
 .exact rb (q8.2 (fun h=>g2 (congrArg (fun z=>z.2.2.1) h)))
 subst g0 g1 g2;exact rb (q18.2 rfl)
theorem q851{N:Nat}(hN:HN N)(x y:List DPort)(hs:x.length<4000000/\∀ e0∈x,(e0.1.size<4000000))(u:Unit):F_242 N (x,y,u)=some (dec (x=y),()):=by unfold F_242;exact q65 (fun e f=>F_241 N (e,f,())) (fun e he f _=>q888 hN e f (hs.2 e he) ()) (hs.1) hN
theorem q803{N:Nat}(hN:HN N)(x y:DDesign)(hs:(x.1.length<4000000/\∀ e0∈x.1,(e0.1.size<4000000)/\(e0.2.2.1.length<4000000))/\(x.2.1.length<4000000/\∀ e0∈x.2.1,e0.size<4000000)/\(x.2.2.1.length<4000000/\∀ e0∈x.2.2.1,(e0.1.size<4000000)))(u:Unit):F_243 N (x,y,u)=some (dec (x=y),()):=by
 refine Ret.tells ?_;unfold F_243;obtain ⟨x0,x1,x2,ux⟩:=x;obtain ⟨y0,y1,y2,uy⟩:=y;dsimp only;refine ra (q581 hN x0 y0 (hs.1) ()) (rg ?_ ?_) <;> intro g0
 .exact rb (q8.2 (fun h=>g0 (congrArg (fun z=>z.1) h)))
 refine ra (q734 hN x1 y1 (hs.2.1) ()) (rg ?_ ?_) <;> intro g1
 .exact rb (q8.2 (fun h=>g1 (congrArg (fun z=>z.2.1) h)))
 refine ra (q851 hN x2 y2 (hs.2.2) ()) (rg ?_ ?_) <;> intro g2
 .exact rb (q8.2 (fun h=>g2 (congrArg (fun z=>z.2.2.1) h)))
 subst g0 g1 g2;exact rb (q18.2 rfl)
theorem q876{N:Nat}(hN:HN N)(x y:DWire)(hs:(x.1.length<4000000)/\(x.2.1.length<4000000)/\(x.2.2.1.length<4000000)/\(x.2.2.2.1.length<4000000))(u:Unit):F_244 N (x,y,u)=some (dec (x=y),()):=by
 refine Ret.tells ?_;unfold F_244;obtain ⟨x0,x1,x2,x3,ux⟩:=x;obtain ⟨y0,y1,y2,y3,uy⟩:=y;dsimp only;refine ra (q91 hN x0 y0 (hs.1) ()) (rg ?_ ?_) <;> intro g0
 .exact rb (q8.2 (fun h=>g0 (congrArg (fun z=>z.1) h)))
 refine ra (q91 hN x1 y1 (hs.2.1) ()) (rg ?_ ?_) <;> intro g1
 .exact rb (q8.2 (fun h=>g1 (congrArg (fun z=>z.2.1) h)))
 refine ra (q91 hN x2 y2 (hs.2.2.1) ()) (rg ?_ ?_) <;> intro g2
 .exact rb (q8.2 (fun h=>g2 (congrArg (fun z=>z.2.2.1) h)))
 refine ra (q91 hN x3 y3 (hs.2.2.2) ()) (rg ?_ ?_) <;> intro g3
 .exact rb (q8.2 (fun h=>g3 (congrArg (fun z=>z.2.2.2.1) h)))
 subst g0 g1 g2 g3;exact rb (q18.2 rfl)
theorem q862{N:Nat}(hN:HN N)(x y:List DWire)(hs:x.length<4000000/\∀ e0∈x,(e0.1.length<4000000)/\(e0.2.1.length<4000000)/\(e0.2.2.1.length<4000000)/\(e0.2.2.2.1.length<4000000))(u:Unit):F_245 N (x,y,u)=some (dec (x=y),()):=by unfold F_245;exact q65 (fun e f=>F_244 N (e,f,())) (fun e he f _=>q876 hN e f (hs.2 e he) ()) (hs.1) hN
theorem q845{N:Nat}(hN:HN N)(x y:DBlock)(hs:((x.1.1.length<4000000/\∀ e0∈x.1.1,(e0.1.size<4000000)/\(e0.2.2.1.length<4000000/\∀ e1∈e0.2.2.1,(e1.1.size<4000000))/\(e0.2.2.2.1.length<4000000/\∀ e1∈e0.2.2.2.1,(e1.2.2.2.2.1.length<4000000/\∀ e2∈e1.2.2.2.2.1,(e2.1.length<4000000)/\(e2.2.1.length<4000000)/\(e2.2.2.1.length<4000000))/\(e1.2.2.2.2.2.1.length<4000000/\∀ e2∈e1.2.2.2.2.2.1,(e2.1.length<4000000)/\(e2.2.1.length<4000000)/\(e2.2.2.1.length<4000000)))/\(e0.2.2.2.2.1.length<4000000)))/\((x.2.1.1.length<4000000/\∀ e0∈x.2.1.1,(e0.1.size<4000000)/\(e0.2.2.1.length<4000000))/\(x.2.1.2.1.length<4000000/\∀ e0∈x.2.1.2.1,e0.size<4000000)/\(x.2.1.2.2.1.length<4000000/\∀ e0∈x.2.1.2.2.1,(e0.1.size<4000000)))/\(x.2.2.1.length<4000000/\∀ e0∈x.2.2.1,(e0.1.length<4000000)/\(e0.2.1.length<4000000)/\(e0.2.2.1.length<4000000)/\(e0.2.2.2.1.length<4000000)))(u:Unit):F_246 N (x,y,u)=some (dec (x=y),()):=by
 refine Ret.tells ?_;unfold F_246;obtain ⟨x0,x1,x2,ux⟩:=x;obtain ⟨y0,y1,y2,uy⟩:=y;dsimp only;refine ra (q730 hN x0 y0 (hs.1) ()) (rg ?_ ?_) <;> intro g0
 .exact rb (q8.2 (fun h=>g0 (congrArg (fun z=>z.1) h)))
 refine ra (q803 hN x1 y1 (hs.2.1) ()) (rg ?_ ?_) <;> intro g1
 .exact rb (q8.2 (fun h=>g1 (congrArg (fun z=>z.2.1) h)))
 refine ra (q862 hN x2 y2 (hs.2.2) ()) (rg ?_ ?_) <;> intro g2
 .exact rb (q8.2 (fun h=>g2 (congrArg (fun z=>z.2.2.1) h)))
 subst g0 g1 g2;exact rb (q18.2 rfl)
theorem q741{N:Nat}(hN:HN N)(x y:DCorner)(hs:(x.1.size<4000000))(u:Unit):F_247 N (x,y,u)=some (dec (x=y),()):=by
 refine Ret.tells ?_;unfold F_247;obtain ⟨x0,x1,x2,x3,x4,ux⟩:=x;obtain ⟨y0,y1,y2,y3,y4,uy⟩:=y;dsimp only;refine rk ?_ ?_ <;> intro g0
 .exact rb (q8.2 (fun h=>g0 (congrArg (fun z=>z.1) h)))
 refine rk ?_ ?_ <;> intro g1
 .exact rb (q8.2 (fun h=>g1 (congrArg (fun z=>z.2.1) h)))
 refine rk ?_ ?_ <;> intro g2
 .exact rb (q8.2 (fun h=>g2 (congrArg (fun z=>z.2.2.1) h)))
 refine rk ?_ ?_ <;> intro g3
 .exact rb (q8.2 (fun h=>g3 (congrArg (fun z=>z.2.2.2.1) h)))
 refine rk ?_ ?_ <;> intro g4
 .exact rb (q8.2 (fun h=>g4 (congrArg (fun z=>z.2.2.2.2.1) h)))
 subst g0 g1 g2 g3 g4;exact rb (q18.2 rfl)
theorem q706{N:Nat}(hN:HN N)(x y:List DCorner)(hs:x.length<4000000/\∀ e0∈x,(e0.1.size<4000000))(u:Unit):F_248 N (x,y,u)=some (dec (x=y),()):=by unfold F_248;exact q65 (fun e f=>F_247 N (e,f,())) (fun e he f _=>q741 hN e f (hs.2 e he) ()) (hs.1) hN
theorem q814{N:Nat}(hN:HN N)(x y:DSource)(hs:True)(u:Unit):F_249 N (x,y,u)=some (dec (x=y),()):=by
 refine Ret.tells ?_;unfold F_249;obtain ⟨x0,x1,x2,ux⟩:=x;obtain ⟨y0,y1,y2,uy⟩:=y;dsimp only;refine rk ?_ ?_ <;> intro g0
 .exact rb (q8.2 (fun h=>g0 (congrArg (fun z=>z.1) h)))
 refine ra (q596 hN x1 y1 trivial ()) (rg ?_ ?_) <;> intro g1
 .exact rb (q8.2 (fun h=>g1 (congrArg (fun z=>z.2.1) h)))
 refine ra (q596 hN x2 y2 trivial ()) (rg ?_ ?_) <;> intro g2
 .exact rb (q8.2 (fun h=>g2 (congrArg (fun z=>z.2.2.1) h)))
 subst g0 g1 g2;exact rb (q18.2 rfl)
theorem q715{N:Nat}(hN:HN N)(x y:List DSource)(hs:x.length<4000000)(u:Unit):F_250 N (x,y,u)=some (dec (x=y),()):=by unfold F_250;exact q65 (fun e f=>F_249 N (e,f,())) (fun e he f _=>q814 hN e f trivial ()) (hs) hN
end Go.Proofs.YtdgabcjahjmdoaaGreatDoor
