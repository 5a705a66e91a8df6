/- The marking functions: how much they mark. Printed by my lawgen.py. No program in sight. -/
import Derived.Test.YtefbaonpbemejabGreatDoorPgV
namespace Go.Proofs.YtefbaonpbemejabGreatDoor
set_option linter.unusedSimpArgs false
set_option linter.unusedVariables false
def q216(x:DPin):Nat:=1+1+1+1
def q303(x:List DPin):Nat:=(x.map fun e=>q216 e).sum
def q43(x:List (Int)):Nat:=(x.map fun e=>1).sum
def q126(x:DTable):Nat:=q43 x.1+q43 x.2.1+q43 x.2.2.1
def q134(x:List DTable):Nat:=(x.map fun e=>q126 e).sum
def q226(x:DArc):Nat:=1+1+1+1+q134 x.2.2.2.2.1+q134 x.2.2.2.2.2.1
def q313(x:List DArc):Nat:=(x.map fun e=>q226 e).sum
def q163(x:DCell):Nat:=1+1+q303 x.2.2.1+q313 x.2.2.2.1+q43 x.2.2.2.2.1+1+1
def q176(x:List DCell):Nat:=(x.map fun e=>q163 e).sum
def q149(x:DLibrary):Nat:=q176 x.1
def q111(x:DLibrary):Nat:=q176 x.1
theorem q695(x:DLibrary):q111 x<=q149 x:=by unfold q111 q149;omega
def q62(x:DInstance):Nat:=1+1+q43 x.2.2.1
def q85(x:List DInstance):Nat:=(x.map fun e=>q62 e).sum
def q112(x:List (ByteArray)):Nat:=(x.map fun e=>1).sum
def q159(x:DPort):Nat:=1+1+1
def q177(x:List DPort):Nat:=(x.map fun e=>q159 e).sum
def q183(x:DDesign):Nat:=q85 x.1+q112 x.2.1+q177 x.2.2.1
def q140(x:DDesign):Nat:=q85 x.1+q112 x.2.1+q177 x.2.2.1
theorem q770(x:DDesign):q140 x<=q183 x:=by unfold q140 q183;omega
def q156(x:DWire):Nat:=q43 x.1+q43 x.2.1+q43 x.2.2.1+q43 x.2.2.2.1
def q178(x:List DWire):Nat:=(x.map fun e=>q156 e).sum
def q297(x:DBlock):Nat:=q149 x.1+q183 x.2.1+q178 x.2.2.1
def q222(x:DBlock):Nat:=q111 x.1+q140 x.2.1+q178 x.2.2.1
theorem q797(x:DBlock):q222 x<=q297 x:=by have h0:=q695 x.1;have h1:=q770 x.2.1;unfold q222 q297;omega
theorem sc_Pin{N:Nat}(hN:HN N)(x:DPin)(room:Int)(h:0<=room/\room<=1048576)(hf:(TPin:Ty).fits x)(u:Unit):Ret (F_0 N (x,room,u)) (fun r=>r.1<=room/\(0<=r.1->((x.1.size<4000000))/\(q216 x:Int)<=4+32 * (room - r.1))):=by
 have hm:=q36;unfold F_0;dsimp only;have hf0:=hf.1;rw[wrapI (n:=room - (x.1.size:Int)) (by omega) (by omega)];refine rg ?_ ?_ <;> intro g0
 .exact ra ⟨by show (-1:Int)<=room; omega,fun h=>absurd h (by decide)⟩
 exact ra ⟨by show (room - (x.1.size:Int))<=room; omega,fun _=>⟨(by omega),by simp only[q216]; show _<=4+32 * (room - (room - (x.1.size:Int))); omega⟩⟩
theorem q847{N:Nat}(hN:HN N)(x:List DPin)(room:Int)(h:0<=room/\room<=1048576)(hf:((.slice TPin):Ty).fits x)(u:Unit):Ret (F_1 N (x,room,u)) (fun r=>r.1<=room/\(0<=r.1->(x.length<4000000/\∀ e0∈x,(e0.1.size<4000000))/\(q303 x:Int)<=32 * (room - r.1))):=by
 have hm:=q36;unfold F_1;have hl:=hf.1;dsimp only;rw[wrapI (n:=room - (x.length:Int)) (by omega) (by omega)];refine rg ?_ ?_ <;> intro h1
 .exact ra ⟨by show (-1:Int)<=room; omega,fun h=>absurd h (by decide)⟩
 refine rz 0 x.length (fun i r _=>0<=r/\r<=room - (x.length:Int)/\(∀ j,j<i->∀ h:j<x.length,(x[j].1.size<4000000))/\((((x.take i).map fun e=>q216 e).sum:Nat):Int)<=32 * (i:Int)+32 * (room - (x.length:Int) - r)) (by omega) (by omega) (by omega) ⟨by omega,by omega,q19,by simp⟩ ?_ ?_
 .rintro i r t next _ hi ⟨hr0,hr,hI,hS⟩ hn
  have hfi:=hf.2 _ (aR hi);have hts:=q48 (fun e=>q216 e) hi;dsimp only at hts |-;refine rf ?_ ?_
  .omega
  refine rd hi (Ret.bind (sc_Pin hN x[i] r ⟨hr0,by omega⟩ hfi ()) ?_);rintro ⟨r2,v⟩ ⟨h2,h3⟩;dsimp only at h2 h3 |-;refine rg ?_ ?_ <;> intro h4
  .exact ra ⟨by show (-1:Int)<=room; omega,fun h=>absurd h (by decide)⟩
  .obtain ⟨h5,h6⟩:=h3 (by omega);exact hn _ _ ⟨by omega,by omega,q18 hI fun _=>h5,by rw[hts]; omega⟩
 .rintro r t next ⟨hr0,hr,hI,hS⟩
  rw[aP] at hS;dsimp only;refine re ?_ (ra ⟨by show r<=room; omega,fun _=>⟨⟨by omega,q15.2 fun j hj=>hI j hj hj⟩,?_⟩⟩)
  .omega
  .unfold q303; show _<=32 * (room - r); omega
theorem q102{N:Nat}(hN:HN N)(x:List (Int))(room:Int)(h:0<=room/\room<=1048576)(hf:((.slice (.int .i64)):Ty).fits x)(u:Unit):Ret (F_2 N (x,room,u)) (fun r=>r.1<=room/\(0<=r.1->(x.length<4000000)/\(q43 x:Int)<=32 * (room - r.1))):=by
 have hm:=q36;unfold F_2;have hl:=hf.1;dsimp only;rw[wrapI (n:=room - (x.length:Int)) (by omega) (by omega)];refine rg ?_ ?_ <;> intro h1
 .exact ra ⟨by show (-1:Int)<=room; omega,fun h=>absurd h (by decide)⟩
 .have hc:q43 x<=32 * x.length:=by unfold q43;refine q674 (fun e _=>?_);omega
  exact ra ⟨by show room - (x.length:Int)<=room; omega,fun _=>⟨by omega,by show _<=32 * (room - (room - (x.length:Int))); omega⟩⟩
theorem q801{N:Nat}(hN:HN N)(x:DTable)(room:Int)(h:0<=room/\room<=1048576)(hf:(TTable:Ty).fits x)(u:Unit):Ret (F_3 N (x,room,u)) (fun r=>r.1<=room/\(0<=r.1->((x.1.length<4000000)/\(x.2.1.length<4000000)/\(x.2.2.1.length<4000000))/\(q126 x:Int)<=0+32 * (room - r.1))):=by
 have hm:=q36;unfold F_3;dsimp only;have hf0:=hf.1;refine Ret.bind (q102 hN x.1 room ⟨by omega,by omega⟩ hf0 ()) ?_;rintro ⟨r0,v0⟩ ⟨a0,b0⟩;dsimp only at a0 b0 |-;refine rg ?_ ?_ <;> intro g0
 .exact ra ⟨by show (-1:Int)<=room; omega,fun h=>absurd h (by decide)⟩
 have hf1:=hf.2.1;refine Ret.bind (q102 hN x.2.1 r0 ⟨by omega,by omega⟩ hf1 ()) ?_;rintro ⟨r1,v1⟩ ⟨a1,b1⟩;dsimp only at a1 b1 |-;refine rg ?_ ?_ <;> intro g1
 .exact ra ⟨by show (-1:Int)<=room; omega,fun h=>absurd h (by decide)⟩
 have hf2:=hf.2.2.1;refine Ret.bind (q102 hN x.2.2.1 r1 ⟨by omega,by omega⟩ hf2 ()) ?_;rintro ⟨r2,v2⟩ ⟨a2,b2⟩;dsimp only at a2 b2 |-;refine rg ?_ ?_ <;> intro g2
 .exact ra ⟨by show (-1:Int)<=room; omega,fun h=>absurd h (by decide)⟩
 have c0:=(b0 (by omega)).2;have c1:=(b1 (by omega)).2;have c2:=(b2 (by omega)).2;exact ra ⟨by show r2<=room; omega,fun _=>⟨⟨(b0 (by omega)).1,(b1 (by omega)).1,(b2 (by omega)).1⟩,by simp only[q126]; show _<=0+32 * (room - r2); omega⟩⟩
theorem q523{N:Nat}(hN:HN N)(x:List DTable)(room:Int)(h:0<=room/\room<=1048576)(hf:((.slice TTable):Ty).fits x)(u:Unit):Ret (F_4 N (x,room,u)) (fun r=>r.1<=room/\(0<=r.1->(x.length<4000000/\∀ e0∈x,(e0.1.length<4000000)/\(e0.2.1.length<4000000)/\(e0.2.2.1.length<4000000))/\(q134 x:Int)<=32 * (room - r.1))):=by
 have hm:=q36;unfold F_4;have hl:=hf.1;dsimp only;rw[wrapI (n:=room - (x.length:Int)) (by omega) (by omega)];refine rg ?_ ?_ <;> intro h1
 .exact ra ⟨by show (-1:Int)<=room; omega,fun h=>absurd h (by decide)⟩
 refine rz 0 x.length (fun i r _=>0<=r/\r<=room - (x.length:Int)/\(∀ j,j<i->∀ h:j<x.length,(x[j].1.length<4000000)/\(x[j].2.1.length<4000000)/\(x[j].2.2.1.length<4000000))/\((((x.take i).map fun e=>q126 e).sum:Nat):Int)<=32 * (i:Int)+32 * (room - (x.length:Int) - r)) (by omega) (by omega) (by omega) ⟨by omega,by omega,q19,by simp⟩ ?_ ?_
 .rintro i r t next _ hi ⟨hr0,hr,hI,hS⟩ hn
  have hfi:=hf.2 _ (aR hi);have hts:=q48 (fun e=>q126 e) hi;dsimp only at hts |-;refine rf ?_ ?_
  .omega
  refine rd hi (Ret.bind (q801 hN x[i] r ⟨hr0,by omega⟩ hfi ()) ?_);rintro ⟨r2,v⟩ ⟨h2,h3⟩;dsimp only at h2 h3 |-;refine rg ?_ ?_ <;> intro h4
  .exact ra ⟨by show (-1:Int)<=room; omega,fun h=>absurd h (by decide)⟩
  .obtain ⟨h5,h6⟩:=h3 (by omega);exact hn _ _ ⟨by omega,by omega,q18 hI fun _=>h5,by rw[hts]; omega⟩
 .rintro r t next ⟨hr0,hr,hI,hS⟩
  rw[aP] at hS;dsimp only;refine re ?_ (ra ⟨by show r<=room; omega,fun _=>⟨⟨by omega,q15.2 fun j hj=>hI j hj hj⟩,?_⟩⟩)
  .omega
  .unfold q134; show _<=32 * (room - r); omega
theorem sc_Arc{N:Nat}(hN:HN N)(x:DArc)(room:Int)(h:0<=room/\room<=1048576)(hf:(TArc:Ty).fits x)(u:Unit):Ret (F_5 N (x,room,u)) (fun r=>r.1<=room/\(0<=r.1->((x.2.2.2.2.1.length<4000000/\∀ e0∈x.2.2.2.2.1,(e0.1.length<4000000)/\(e0.2.1.length<4000000)/\(e0.2.2.1.length<4000000))/\(x.2.2.2.2.2.1.length<4000000/\∀ e0∈x.2.2.2.2.2.1,(e0.1.length<4000000)/\(e0.2.1.length<4000000)/\(e0.2.2.1.length<4000000)))/\(q226 x:Int)<=4+32 * (room - r.1))):=by
 have hm:=q36;unfold F_5;dsimp only;have hf0:=hf.2.2.2.2.1;refine Ret.bind (q523 hN x.2.2.2.2.1 room ⟨by omega,by omega⟩ hf0 ()) ?_;rintro ⟨r0,v0⟩ ⟨a0,b0⟩;dsimp only at a0 b0 |-;refine rg ?_ ?_ <;> intro g0
 .exact ra ⟨by show (-1:Int)<=room; omega,fun h=>absurd h (by decide)⟩
 have hf1:=hf.2.2.2.2.2.1;refine Ret.bind (q523 hN x.2.2.2.2.2.1 r0 ⟨by omega,by omega⟩ hf1 ()) ?_;rintro ⟨r1,v1⟩ ⟨a1,b1⟩;dsimp only at a1 b1 |-;refine rg ?_ ?_ <;> intro g1
 .exact ra ⟨by show (-1:Int)<=room; omega,fun h=>absurd h (by decide)⟩
 have c0:=(b0 (by omega)).2;have c1:=(b1 (by omega)).2;exact ra ⟨by show r1<=room; omega,fun _=>⟨⟨(b0 (by omega)).1,(b1 (by omega)).1⟩,by simp only[q226]; show _<=4+32 * (room - r1); omega⟩⟩
theorem q845{N:Nat}(hN:HN N)(x:List DArc)(room:Int)(h:0<=room/\room<=1048576)(hf:((.slice TArc):Ty).fits x)(u:Unit):Ret (F_6 N (x,room,u)) (fun r=>r.1<=room/\(0<=r.1->(x.length<4000000/\∀ e0∈x,(e0.2.2.2.2.1.length<4000000/\∀ e1∈e0.2.2.2.2.1,(e1.1.length<4000000)/\(e1.2.1.length<4000000)/\(e1.2.2.1.length<4000000))/\(e0.2.2.2.2.2.1.length<4000000/\∀ e1∈e0.2.2.2.2.2.1,(e1.1.length<4000000)/\(e1.2.1.length<4000000)/\(e1.2.2.1.length<4000000)))/\(q313 x:Int)<=32 * (room - r.1))):=by
 have hm:=q36;unfold F_6;have hl:=hf.1;dsimp only;rw[wrapI (n:=room - (x.length:Int)) (by omega) (by omega)];refine rg ?_ ?_ <;> intro h1
 .exact ra ⟨by show (-1:Int)<=room; omega,fun h=>absurd h (by decide)⟩
 refine rz 0 x.length (fun i r _=>0<=r/\r<=room - (x.length:Int)/\(∀ j,j<i->∀ h:j<x.length,(x[j].2.2.2.2.1.length<4000000/\∀ e0∈x[j].2.2.2.2.1,(e0.1.length<4000000)/\(e0.2.1.length<4000000)/\(e0.2.2.1.length<4000000))/\(x[j].2.2.2.2.2.1.length<4000000/\∀ e0∈x[j].2.2.2.2.2.1,(e0.1.length<4000000)/\(e0.2.1.length<4000000)/\(e0.2.2.1.length<4000000)))/\((((x.take i).map fun e=>q226 e).sum:Nat):Int)<=32 * (i:Int)+32 * (room - (x.length:Int) - r)) (by omega) (by omega) (by omega) ⟨by omega,by omega,q19,by simp⟩ ?_ ?_
 .rintro i r t next _ hi ⟨hr0,hr,hI,hS⟩ hn
  have hfi:=hf.2 _ (aR hi);have hts:=q48 (fun e=>q226 e) hi;dsimp only at hts |-;refine rf ?_ ?_
  .omega
  refine rd hi (Ret.bind (sc_Arc hN x[i] r ⟨hr0,by omega⟩ hfi ()) ?_);rintro ⟨r2,v⟩ ⟨h2,h3⟩;dsimp only at h2 h3 |-;refine rg ?_ ?_ <;> intro h4
  .exact ra ⟨by show (-1:Int)<=room; omega,fun h=>absurd h (by decide)⟩
  .obtain ⟨h5,h6⟩:=h3 (by omega);exact hn _ _ ⟨by omega,by omega,q18 hI fun _=>h5,by rw[hts]; omega⟩
 .rintro r t next ⟨hr0,hr,hI,hS⟩
  rw[aP] at hS;dsimp only;refine re ?_ (ra ⟨by show r<=room; omega,fun _=>⟨⟨by omega,q15.2 fun j hj=>hI j hj hj⟩,?_⟩⟩)
  .omega
  .unfold q313; show _<=32 * (room - r); omega
theorem q838{N:Nat}(hN:HN N)(x:DCell)(room:Int)(h:0<=room/\room<=1048576)(hf:(TCell:Ty).fits x)(u:Unit):Ret (F_7 N (x,room,u)) (fun r=>r.1<=room/\(0<=r.1->((x.1.size<4000000)/\(x.2.2.1.length<4000000/\∀ e0∈x.2.2.1,(e0.1.size<4000000))/\(x.2.2.2.1.length<4000000/\∀ e0∈x.2.2.2.1,(e0.2.2.2.2.1.length<4000000/\∀ e1∈e0.2.2.2.2.1,(e1.1.length<4000000)/\(e1.2.1.length<4000000)/\(e1.2.2.1.length<4000000))/\(e0.2.2.2.2.2.1.length<4000000/\∀ e1∈e0.2.2.2.2.2.1,(e1.1.length<4000000)/\(e1.2.1.length<4000000)/\(e1.2.2.1.length<4000000)))/\(x.2.2.2.2.1.length<4000000))/\(q163 x:Int)<=4+32 * (room - r.1))):=by
 have hm:=q36;unfold F_7;dsimp only;have hf0:=hf.1;rw[wrapI (n:=room - (x.1.size:Int)) (by omega) (by omega)];refine rg ?_ ?_ <;> intro g0
 .exact ra ⟨by show (-1:Int)<=room; omega,fun h=>absurd h (by decide)⟩
 have hf1:=hf.2.2.1;refine Ret.bind (q847 hN x.2.2.1 (room - (x.1.size:Int)) ⟨by omega,by omega⟩ hf1 ()) ?_;rintro ⟨r1,v1⟩ ⟨a1,b1⟩;dsimp only at a1 b1 |-;refine rg ?_ ?_ <;> intro g1
 .exact ra ⟨by show (-1:Int)<=room; omega,fun h=>absurd h (by decide)⟩
 have hf2:=hf.2.2.2.1;refine Ret.bind (q845 hN x.2.2.2.1 r1 ⟨by omega,by omega⟩ hf2 ()) ?_;rintro ⟨r2,v2⟩ ⟨a2,b2⟩;dsimp only at a2 b2 |-;refine rg ?_ ?_ <;> intro g2
 .exact ra ⟨by show (-1:Int)<=room; omega,fun h=>absurd h (by decide)⟩
 have hf3:=hf.2.2.2.2.1;refine Ret.bind (q102 hN x.2.2.2.2.1 r2 ⟨by omega,by omega⟩ hf3 ()) ?_;rintro ⟨r3,v3⟩ ⟨a3,b3⟩;dsimp only at a3 b3 |-;refine rg ?_ ?_ <;> intro g3
 .exact ra ⟨by show (-1:Int)<=room; omega,fun h=>absurd h (by decide)⟩
 have c1:=(b1 (by omega)).2;have c2:=(b2 (by omega)).2;have c3:=(b3 (by omega)).2;exact ra ⟨by show r3<=room; omega,fun _=>⟨⟨(by omega),(b1 (by omega)).1,(b2 (by omega)).1,(b3 (by omega)).1⟩,by simp only[q163]; show _<=4+32 * (room - r3); omega⟩⟩
theorem q813{N:Nat}(hN:HN N)(x:List DCell)(room:Int)(h:0<=room/\room<=1048576)(hf:((.slice TCell):Ty).fits x)(u:Unit):Ret (F_8 N (x,room,u)) (fun r=>r.1<=room/\(0<=r.1->(x.length<4000000/\∀ e0∈x,(e0.1.size<4000000)/\(e0.2.2.1.length<4000000/\∀ e1∈e0.2.2.1,(e1.1.size<4000000))/\(e0.2.2.2.1.length<4000000/\∀ e1∈e0.2.2.2.1,(e1.2.2.2.2.1.length<4000000/\∀ e2∈e1.2.2.2.2.1,(e2.1.length<4000000)/\(e2.2.1.length<4000000)/\(e2.2.2.1.length<4000000))/\(e1.2.2.2.2.2.1.length<4000000/\∀ e2∈e1.2.2.2.2.2.1,(e2.1.length<4000000)/\(e2.2.1.length<4000000)/\(e2.2.2.1.length<4000000)))/\(e0.2.2.2.2.1.length<4000000))/\(q176 x:Int)<=32 * (room - r.1))):=by
 have hm:=q36;unfold F_8;have hl:=hf.1;dsimp only;rw[wrapI (n:=room - (x.length:Int)) (by omega) (by omega)];refine rg ?_ ?_ <;> intro h1
 .exact ra ⟨by show (-1:Int)<=room; omega,fun h=>absurd h (by decide)⟩
 refine rz 0 x.length (fun i r _=>0<=r/\r<=room - (x.length:Int)/\(∀ j,j<i->∀ h:j<x.length,(x[j].1.size<4000000)/\(x[j].2.2.1.length<4000000/\∀ e0∈x[j].2.2.1,(e0.1.size<4000000))/\(x[j].2.2.2.1.length<4000000/\∀ e0∈x[j].2.2.2.1,(e0.2.2.2.2.1.length<4000000/\∀ e1∈e0.2.2.2.2.1,(e1.1.length<4000000)/\(e1.2.1.length<4000000)/\(e1.2.2.1.length<4000000))/\(e0.2.2.2.2.2.1.length<4000000/\∀ e1∈e0.2.2.2.2.2.1,(e1.1.length<4000000)/\(e1.2.1.length<4000000)/\(e1.2.2.1.length<4000000)))/\(x[j].2.2.2.2.1.length<4000000))/\((((x.take i).map fun e=>q163 e).sum:Nat):Int)<=32 * (i:Int)+32 * (room - (x.length:Int) - r)) (by omega) (by omega) (by omega) ⟨by omega,by omega,q19,by simp⟩ ?_ ?_
 .rintro i r t next _ hi ⟨hr0,hr,hI,hS⟩ hn
  have hfi:=hf.2 _ (aR hi);have hts:=q48 (fun e=>q163 e) hi;dsimp only at hts |-;refine rf ?_ ?_
  .omega
  refine rd hi (Ret.bind (q838 hN x[i] r ⟨hr0,by omega⟩ hfi ()) ?_);rintro ⟨r2,v⟩ ⟨h2,h3⟩;dsimp only at h2 h3 |-;refine rg ?_ ?_ <;> intro h4
  .exact ra ⟨by show (-1:Int)<=room; omega,fun h=>absurd h (by decide)⟩
  .obtain ⟨h5,h6⟩:=h3 (by omega);exact hn _ _ ⟨by omega,by omega,q18 hI fun _=>h5,by rw[hts]; omega⟩
 .rintro r t next ⟨hr0,hr,hI,hS⟩
  rw[aP] at hS;dsimp only;refine re ?_ (ra ⟨by show r<=room; omega,fun _=>⟨⟨by omega,q15.2 fun j hj=>hI j hj hj⟩,?_⟩⟩)
  .omega
  .unfold q176; show _<=32 * (room - r); omega
theorem q710{N:Nat}(hN:HN N)(x:DLibrary)(room:Int)(h:0<=room/\room<=1048576)(hf:(TLibrary:Ty).fits x)(u:Unit):Ret (F_9 N (x,room,u)) (fun r=>r.1<=room/\(0<=r.1->((x.1.length<4000000/\∀ e0∈x.1,(e0.1.size<4000000)/\(e0.2.2.1.length<4000000/\∀ e1∈e0.2.2.1,(e1.1.size<4000000))/\(e0.2.2.2.1.length<4000000/\∀ e1∈e0.2.2.2.1,(e1.2.2.2.2.1.length<4000000/\∀ e2∈e1.2.2.2.2.1,(e2.1.length<4000000)/\(e2.2.1.length<4000000)/\(e2.2.2.1.length<4000000))/\(e1.2.2.2.2.2.1.length<4000000/\∀ e2∈e1.2.2.2.2.2.1,(e2.1.length<4000000)/\(e2.2.1.length<4000000)/\(e2.2.2.1.length<4000000)))/\(e0.2.2.2.2.1.length<4000000)))/\(q149 x:Int)<=0+32 * (room - r.1))):=by
 have hm:=q36;unfold F_9;dsimp only;have hf0:=hf.1;refine Ret.bind (q813 hN x.1 room ⟨by omega,by omega⟩ hf0 ()) ?_;rintro ⟨r0,v0⟩ ⟨a0,b0⟩;dsimp only at a0 b0 |-;refine rg ?_ ?_ <;> intro g0
 .exact ra ⟨by show (-1:Int)<=room; omega,fun h=>absurd h (by decide)⟩
 have c0:=(b0 (by omega)).2;exact ra ⟨by show r0<=room; omega,fun _=>⟨(b0 (by omega)).1,by simp only[q149]; show _<=0+32 * (room - r0); omega⟩⟩
theorem q610{N:Nat}(hN:HN N)(x:DInstance)(room:Int)(h:0<=room/\room<=1048576)(hf:(TInstance:Ty).fits x)(u:Unit):Ret (F_10 N (x,room,u)) (fun r=>r.1<=room/\(0<=r.1->((x.1.size<4000000)/\(x.2.2.1.length<4000000))/\(q62 x:Int)<=2+32 * (room - r.1))):=by
 have hm:=q36;unfold F_10;dsimp only;have hf0:=hf.1;rw[wrapI (n:=room - (x.1.size:Int)) (by omega) (by omega)];refine rg ?_ ?_ <;> intro g0
 .exact ra ⟨by show (-1:Int)<=room; omega,fun h=>absurd h (by decide)⟩
 have hf1:=hf.2.2.1;refine Ret.bind (q102 hN x.2.2.1 (room - (x.1.size:Int)) ⟨by omega,by omega⟩ hf1 ()) ?_;rintro ⟨r1,v1⟩ ⟨a1,b1⟩;dsimp only at a1 b1 |-;refine rg ?_ ?_ <;> intro g1
 .exact ra ⟨by show (-1:Int)<=room; omega,fun h=>absurd h (by decide)⟩
 have c1:=(b1 (by omega)).2;exact ra ⟨by show r1<=room; omega,fun _=>⟨⟨(by omega),(b1 (by omega)).1⟩,by simp only[q62]; show _<=2+32 * (room - r1); omega⟩⟩
theorem q522{N:Nat}(hN:HN N)(x:List DInstance)(room:Int)(h:0<=room/\room<=1048576)(hf:((.slice TInstance):Ty).fits x)(u:Unit):Ret (F_11 N (x,room,u)) (fun r=>r.1<=room/\(0<=r.1->(x.length<4000000/\∀ e0∈x,(e0.1.size<4000000)/\(e0.2.2.1.length<4000000))/\(q85 x:Int)<=32 * (room - r.1))):=by
 have hm:=q36;unfold F_11;have hl:=hf.1;dsimp only;rw[wrapI (n:=room - (x.length:Int)) (by omega) (by omega)];refine rg ?_ ?_ <;> intro h1
 .exact ra ⟨by show (-1:Int)<=room; omega,fun h=>absurd h (by decide)⟩
 refine rz 0 x.length (fun i r _=>0<=r/\r<=room - (x.length:Int)/\(∀ j,j<i->∀ h:j<x.length,(x[j].1.size<4000000)/\(x[j].2.2.1.length<4000000))/\((((x.take i).map fun e=>q62 e).sum:Nat):Int)<=32 * (i:Int)+32 * (room - (x.length:Int) - r)) (by omega) (by omega) (by omega) ⟨by omega,by omega,q19,by simp⟩ ?_ ?_
 .rintro i r t next _ hi ⟨hr0,hr,hI,hS⟩ hn
  have hfi:=hf.2 _ (aR hi);have hts:=q48 (fun e=>q62 e) hi;dsimp only at hts |-;refine rf ?_ ?_
  .omega
  refine rd hi (Ret.bind (q610 hN x[i] r ⟨hr0,by omega⟩ hfi ()) ?_);rintro ⟨r2,v⟩ ⟨h2,h3⟩;dsimp only at h2 h3 |-;refine rg ?_ ?_ <;> intro h4
  .exact ra ⟨by show (-1:Int)<=room; omega,fun h=>absurd h (by decide)⟩
  .obtain ⟨h5,h6⟩:=h3 (by omega);exact hn _ _ ⟨by omega,by omega,q18 hI fun _=>h5,by rw[hts]; omega⟩
 .rintro r t next ⟨hr0,hr,hI,hS⟩
  rw[aP] at hS;dsimp only;refine re ?_ (ra ⟨by show r<=room; omega,fun _=>⟨⟨by omega,q15.2 fun j hj=>hI j hj hj⟩,?_⟩⟩)
  .omega
  .unfold q85; show _<=32 * (room - r); omega
theorem q712{N:Nat}(hN:HN N)(x:List (ByteArray))(room:Int)(h:0<=room/\room<=1048576)(hf:((.slice (.str)):Ty).fits x)(u:Unit):Ret (F_12 N (x,room,u)) (fun r=>r.1<=room/\(0<=r.1->(x.length<4000000/\∀ e0∈x,e0.size<4000000)/\(q112 x:Int)<=32 * (room - r.1))):=by
 have hm:=q36;unfold F_12;have hl:=hf.1;dsimp only;rw[wrapI (n:=room - (x.length:Int)) (by omega) (by omega)];refine rg ?_ ?_ <;> intro h1
 .exact ra ⟨by show (-1:Int)<=room; omega,fun h=>absurd h (by decide)⟩
 refine rz 0 x.length (fun i r _=>0<=r/\r<=room - (x.length:Int)/\(∀ j,j<i->∀ h:j<x.length,x[j].size<4000000)/\((((x.take i).map fun e=>1).sum:Nat):Int)<=32 * (i:Int)+32 * (room - (x.length:Int) - r)) (by omega) (by omega) (by omega) ⟨by omega,by omega,q19,by simp⟩ ?_ ?_
 .rintro i r t next _ hi ⟨hr0,hr,hI,hS⟩ hn
  have hfi:=hf.2 _ (aR hi);have hts:=q48 (fun e=>1) hi;dsimp only at hts |-;refine rf ?_ ?_
  .omega
  refine rd hi ?_;have hfi:x[i].size<=maxLen:=hfi;rw[wrapI (n:=r - (x[i].size:Int)) (by omega) (by omega)];refine rg ?_ ?_ <;> intro h2
  .exact ra ⟨by show (-1:Int)<=room; omega,fun h=>absurd h (by decide)⟩
  .exact hn _ _ ⟨by omega,by omega,q18 hI fun _=>by omega,by rw[hts]; omega⟩
 .rintro r t next ⟨hr0,hr,hI,hS⟩
  rw[aP] at hS;dsimp only;refine re ?_ (ra ⟨by show r<=room; omega,fun _=>⟨⟨by omega,q15.2 fun j hj=>hI j hj hj⟩,?_⟩⟩)
  .omega
  .unfold q112; show _<=32 * (room - r); omega
theorem q874{N:Nat}(hN:HN N)(x:DPort)(room:Int)(h:0<=room/\room<=1048576)(hf:(TPort:Ty).fits x)(u:Unit):Ret (F_13 N (x,room,u)) (fun r=>r.1<=room/\(0<=r.1->((x.1.size<4000000))/\(q159 x:Int)<=3+32 * (room - r.1))):=by
 have hm:=q36;unfold F_13;dsimp only;have hf0:=hf.1;rw[wrapI (n:=room - (x.1.size:Int)) (by omega) (by omega)];refine rg ?_ ?_ <;> intro g0
 .exact ra ⟨by show (-1:Int)<=room; omega,fun h=>absurd h (by decide)⟩
 exact ra ⟨by show (room - (x.1.size:Int))<=room; omega,fun _=>⟨(by omega),by simp only[q159]; show _<=3+32 * (room - (room - (x.1.size:Int))); omega⟩⟩
theorem q793{N:Nat}(hN:HN N)(x:List DPort)(room:Int)(h:0<=room/\room<=1048576)(hf:((.slice TPort):Ty).fits x)(u:Unit):Ret (F_14 N (x,room,u)) (fun r=>r.1<=room/\(0<=r.1->(x.length<4000000/\∀ e0∈x,(e0.1.size<4000000))/\(q177 x:Int)<=32 * (room - r.1))):=by
 have hm:=q36;unfold F_14;have hl:=hf.1;dsimp only;rw[wrapI (n:=room - (x.length:Int)) (by omega) (by omega)];refine rg ?_ ?_ <;> intro h1
 .exact ra ⟨by show (-1:Int)<=room; omega,fun h=>absurd h (by decide)⟩
 refine rz 0 x.length (fun i r _=>0<=r/\r<=room - (x.length:Int)/\(∀ j,j<i->∀ h:j<x.length,(x[j].1.size<4000000))/\((((x.take i).map fun e=>q159 e).sum:Nat):Int)<=32 * (i:Int)+32 * (room - (x.length:Int) - r)) (by omega) (by omega) (by omega) ⟨by omega,by omega,q19,by simp⟩ ?_ ?_
 .rintro i r t next _ hi ⟨hr0,hr,hI,hS⟩ hn
  have hfi:=hf.2 _ (aR hi);have hts:=q48 (fun e=>q159 e) hi;dsimp only at hts |-;refine rf ?_ ?_
  .omega
  refine rd hi (Ret.bind (q874 hN x[i] r ⟨hr0,by omega⟩ hfi ()) ?_);rintro ⟨r2,v⟩ ⟨h2,h3⟩;dsimp only at h2 h3 |-;refine rg ?_ ?_ <;> intro h4
  .exact ra ⟨by show (-1:Int)<=room; omega,fun h=>absurd h (by decide)⟩
  .obtain ⟨h5,h6⟩:=h3 (by omega);exact hn _ _ ⟨by omega,by omega,q18 hI fun _=>h5,by rw[hts]; omega⟩
 .rintro r t next ⟨hr0,hr,hI,hS⟩
  rw[aP] at hS;dsimp only;refine re ?_ (ra ⟨by show r<=room; omega,fun _=>⟨⟨by omega,q15.2 fun j hj=>hI j hj hj⟩,?_⟩⟩)
  .omega
  .unfold q177; show _<=32 * (room - r); omega
theorem q783{N:Nat}(hN:HN N)(x:DDesign)(room:Int)(h:0<=room/\room<=1048576)(hf:(TDesign:Ty).fits x)(u:Unit):Ret (F_15 N (x,room,u)) (fun r=>r.1<=room/\(0<=r.1->((x.1.length<4000000/\∀ e0∈x.1,(e0.1.size<4000000)/\(e0.2.2.1.length<4000000))/\(x.2.1.length<4000000/\∀ e0∈x.2.1,e0.size<4000000)/\(x.2.2.1.length<4000000/\∀ e0∈x.2.2.1,(e0.1.size<4000000)))/\(q183 x:Int)<=0+32 * (room - r.1))):=by
 have hm:=q36;unfold F_15;dsimp only;have hf0:=hf.1;refine Ret.bind (q522 hN x.1 room ⟨by omega,by omega⟩ hf0 ()) ?_;rintro ⟨r0,v0⟩ ⟨a0,b0⟩;dsimp only at a0 b0 |-;refine rg ?_ ?_ <;> intro g0
 .exact ra ⟨by show (-1:Int)<=room; omega,fun h=>absurd h (by decide)⟩
 have hf1:=hf.2.1;refine Ret.bind (q712 hN x.2.1 r0 ⟨by omega,by omega⟩ hf1 ()) ?_;rintro ⟨r1,v1⟩ ⟨a1,b1⟩;dsimp only at a1 b1 |-;refine rg ?_ ?_ <;> intro g1
 .exact ra ⟨by show (-1:Int)<=room; omega,fun h=>absurd h (by decide)⟩
 have hf2:=hf.2.2.1;refine Ret.bind (q793 hN x.2.2.1 r1 ⟨by omega,by omega⟩ hf2 ()) ?_;rintro ⟨r2,v2⟩ ⟨a2,b2⟩;dsimp only at a2 b2 |-;refine rg ?_ ?_ <;> intro g2
 .exact ra ⟨by show (-1:Int)<=room; omega,fun h=>absurd h (by decide)⟩
 have c0:=(b0 (by omega)).2;have c1:=(b1 (by omega)).2;have c2:=(b2 (by omega)).2;exact ra ⟨by show r2<=room; omega,fun _=>⟨⟨(b0 (by omega)).1,(b1 (by omega)).1,(b2 (by omega)).1⟩,by simp only[q183]; show _<=0+32 * (room - r2); omega⟩⟩
theorem q849{N:Nat}(hN:HN N)(x:DWire)(room:Int)(h:0<=room/\room<=1048576)(hf:(TWire:Ty).fits x)(u:Unit):Ret (F_16 N (x,room,u)) (fun r=>r.1<=room/\(0<=r.1->((x.1.length<4000000)/\(x.2.1.length<4000000)/\(x.2.2.1.length<4000000)/\(x.2.2.2.1.length<4000000))/\(q156 x:Int)<=0+32 * (room - r.1))):=by
 have hm:=q36;unfold F_16;dsimp only;have hf0:=hf.1;refine Ret.bind (q102 hN x.1 room ⟨by omega,by omega⟩ hf0 ()) ?_;rintro ⟨r0,v0⟩ ⟨a0,b0⟩;dsimp only at a0 b0 |-;refine rg ?_ ?_ <;> intro g0
 .exact ra ⟨by show (-1:Int)<=room; omega,fun h=>absurd h (by decide)⟩
 have hf1:=hf.2.1;refine Ret.bind (q102 hN x.2.1 r0 ⟨by omega,by omega⟩ hf1 ()) ?_;rintro ⟨r1,v1⟩ ⟨a1,b1⟩;dsimp only at a1 b1 |-;refine rg ?_ ?_ <;> intro g1
 .exact ra ⟨by show (-1:Int)<=room; omega,fun h=>absurd h (by decide)⟩
 have hf2:=hf.2.2.1;refine Ret.bind (q102 hN x.2.2.1 r1 ⟨by omega,by omega⟩ hf2 ()) ?_;rintro ⟨r2,v2⟩ ⟨a2,b2⟩;dsimp only at a2 b2 |-;refine rg ?_ ?_ <;> intro g2
 .exact ra ⟨by show (-1:Int)<=room; omega,fun h=>absurd h (by decide)⟩
 have hf3:=hf.2.2.2.1;refine Ret.bind (q102 hN x.2.2.2.1 r2 ⟨by omega,by omega⟩ hf3 ()) ?_;rintro ⟨r3,v3⟩ ⟨a3,b3⟩;dsimp only at a3 b3 |-;refine rg ?_ ?_ <;> intro g3
 .exact ra ⟨by show (-1:Int)<=room; omega,fun h=>absurd h (by decide)⟩
 have c0:=(b0 (by omega)).2;have c1:=(b1 (by omega)).2;have c2:=(b2 (by omega)).2;have c3:=(b3 (by omega)).2;exact ra ⟨by show r3<=room; omega,fun _=>⟨⟨(b0 (by omega)).1,(b1 (by omega)).1,(b2 (by omega)).1,(b3 (by omega)).1⟩,by simp only[q156]; show _<=0+32 * (room - r3); omega⟩⟩
theorem q795{N:Nat}(hN:HN N)(x:List DWire)(room:Int)(h:0<=room/\room<=1048576)(hf:((.slice TWire):Ty).fits x)(u:Unit):Ret (F_17 N (x,room,u)) (fun r=>r.1<=room/\(0<=r.1->(x.length<4000000/\∀ e0∈x,(e0.1.length<4000000)/\(e0.2.1.length<4000000)/\(e0.2.2.1.length<4000000)/\(e0.2.2.2.1.length<4000000))/\(q178 x:Int)<=32 * (room - r.1))):=by
 have hm:=q36;unfold F_17;have hl:=hf.1;dsimp only;rw[wrapI (n:=room - (x.length:Int)) (by omega) (by omega)];refine rg ?_ ?_ <;> intro h1
 .exact ra ⟨by show (-1:Int)<=room; omega,fun h=>absurd h (by decide)⟩
 refine rz 0 x.length (fun i r _=>0<=r/\r<=room - (x.length:Int)/\(∀ j,j<i->∀ h:j<x.length,(x[j].1.length<4000000)/\(x[j].2.1.length<4000000)/\(x[j].2.2.1.length<4000000)/\(x[j].2.2.2.1.length<4000000))/\((((x.take i).map fun e=>q156 e).sum:Nat):Int)<=32 * (i:Int)+32 * (room - (x.length:Int) - r)) (by omega) (by omega) (by omega) ⟨by omega,by omega,q19,by simp⟩ ?_ ?_
 .rintro i r t next _ hi ⟨hr0,hr,hI,hS⟩ hn
  have hfi:=hf.2 _ (aR hi);have hts:=q48 (fun e=>q156 e) hi;dsimp only at hts |-;refine rf ?_ ?_
  .omega
  refine rd hi (Ret.bind (q849 hN x[i] r ⟨hr0,by omega⟩ hfi ()) ?_);rintro ⟨r2,v⟩ ⟨h2,h3⟩;dsimp only at h2 h3 |-;refine rg ?_ ?_ <;> intro h4
  .exact ra ⟨by show (-1:Int)<=room; omega,fun h=>absurd h (by decide)⟩
  .obtain ⟨h5,h6⟩:=h3 (by omega);exact hn _ _ ⟨by omega,by omega,q18 hI fun _=>h5,by rw[hts]; omega⟩
 .rintro r t next ⟨hr0,hr,hI,hS⟩
  rw[aP] at hS;dsimp only;refine re ?_ (ra ⟨by show r<=room; omega,fun _=>⟨⟨by omega,q15.2 fun j hj=>hI j hj hj⟩,?_⟩⟩)
  .omega
  .unfold q178; show _<=32 * (room - r); omega
theorem q824{N:Nat}(hN:HN N)(x:DBlock)(room:Int)(h:0<=room/\room<=1048576)(hf:(TBlock:Ty).fits x)(u:Unit):Ret (F_18 N (x,room,u)) (fun r=>r.1<=room/\(0<=r.1->(((x.1.1.length<4000000/\∀ e0∈x.1.1,(e0.1.size<4000000)/\(e0.2.2.1.length<4000000/\∀ e1∈e0.2.2.1,(e1.1.size<4000000))/\(e0.2.2.2.1.length<4000000/\∀ e1∈e0.2.2.2.1,(e1.2.2.2.2.1.length<4000000/\∀ e2∈e1.2.2.2.2.1,(e2.1.length<4000000)/\(e2.2.1.length<4000000)/\(e2.2.2.1.length<4000000))/\(e1.2.2.2.2.2.1.length<4000000/\∀ e2∈e1.2.2.2.2.2.1,(e2.1.length<4000000)/\(e2.2.1.length<4000000)/\(e2.2.2.1.length<4000000)))/\(e0.2.2.2.2.1.length<4000000)))/\((x.2.1.1.length<4000000/\∀ e0∈x.2.1.1,(e0.1.size<4000000)/\(e0.2.2.1.length<4000000))/\(x.2.1.2.1.length<4000000/\∀ e0∈x.2.1.2.1,e0.size<4000000)/\(x.2.1.2.2.1.length<4000000/\∀ e0∈x.2.1.2.2.1,(e0.1.size<4000000)))/\(x.2.2.1.length<4000000/\∀ e0∈x.2.2.1,(e0.1.length<4000000)/\(e0.2.1.length<4000000)/\(e0.2.2.1.length<4000000)/\(e0.2.2.2.1.length<4000000)))/\(q297 x:Int)<=0+32 * (room - r.1))):=by
 have hm:=q36;unfold F_18;dsimp only;have hf0:=hf.1;refine Ret.bind (q710 hN x.1 room ⟨by omega,by omega⟩ hf0 ()) ?_;rintro ⟨r0,v0⟩ ⟨a0,b0⟩;dsimp only at a0 b0 |-;refine rg ?_ ?_ <;> intro g0
 .exact ra ⟨by show (-1:Int)<=room; omega,fun h=>absurd h (by decide)⟩
 have hf1:=hf.2.1;refine Ret.bind (q783 hN x.2.1 r0 ⟨by omega,by omega⟩ hf1 ()) ?_;rintro ⟨r1,v1⟩ ⟨a1,b1⟩;dsimp only at a1 b1 |-;refine rg ?_ ?_ <;> intro g1
 .exact ra ⟨by show (-1:Int)<=room; omega,fun h=>absurd h (by decide)⟩
 have hf2:=hf.2.2.1;refine Ret.bind (q795 hN x.2.2.1 r1 ⟨by omega,by omega⟩ hf2 ()) ?_;rintro ⟨r2,v2⟩ ⟨a2,b2⟩;dsimp only at a2 b2 |-;refine rg ?_ ?_ <;> intro g2
 .exact ra ⟨by show (-1:Int)<=room; omega,fun h=>absurd h (by decide)⟩
 have c0:=(b0 (by omega)).2;have c1:=(b1 (by omega)).2;have c2:=(b2 (by omega)).2;exact ra ⟨by show r2<=room; omega,fun _=>⟨⟨(b0 (by omega)).1,(b1 (by omega)).1,(b2 (by omega)).1⟩,by simp only[q297]; show _<=0+32 * (room - r2); omega⟩⟩
theorem q850{N:Nat}(hN:1000000000000<=N)(x:List DPin)(hs:x.length<4000000/\∀ e0∈x,(e0.1.size<4000000))(k:Int)(h0:0<=k)(hb:k+(q303 x:Nat)<=100000000000):F_189 N x k=some (k+(q303 x:Nat)):=by
 unfold F_189;have hlen:x.length<4000000:=hs.1;refine q100 (fun e=>q216 e) hN h0 hb hlen ?_ ?_
 .intro i hi m next hm hmb hn
  have hse:=hs.2 _ (aR hi);simp only[q216] at hmb;dsimp only[nth];refine rf (by omega) ?_;refine vd hN (by (try simp (disch:=omega) only [wrapI]); omega) fun _=>?_;refine rd hi ?_;refine rd hi ?_;refine rd hi ?_;refine rd hi ?_;refine va hn ?_
  (try simp (disch:=omega) only [wrapI])
  simp only[q216];omega
 .intro m next
  dsimp only[nth];exact Ret.eq (re (by omega) (ra rfl))
theorem q103{N:Nat}(hN:1000000000000<=N)(x:List (Int))(hs:x.length<4000000)(k:Int)(h0:0<=k)(hb:k+(q43 x:Nat)<=100000000000):F_190 N x k=some (k+(q43 x:Nat)):=by
 unfold F_190;have hlen:x.length<4000000:=hs;refine q100 (fun e=>1) hN h0 hb hlen ?_ ?_
 .intro i hi m next hm hmb hn
  (try dsimp only at hmb)
  dsimp only[nth];refine rf (by omega) ?_;refine rd hi ?_;refine va hn ?_
  (try simp (disch:=omega) only [wrapI])
  omega
 .intro m next
  dsimp only[nth];exact Ret.eq (re (by omega) (ra rfl))
theorem q570{N:Nat}(hN:1000000000000<=N)(x:List DTable)(hs:x.length<4000000/\∀ e0∈x,(e0.1.length<4000000)/\(e0.2.1.length<4000000)/\(e0.2.2.1.length<4000000))(k:Int)(h0:0<=k)(hb:k+(q134 x:Nat)<=100000000000):F_191 N x k=some (k+(q134 x:Nat)):=by
 unfold F_191;have hlen:x.length<4000000:=hs.1;refine q100 (fun e=>q126 e) hN h0 hb hlen ?_ ?_
 .intro i hi m next hm hmb hn
  have hse:=hs.2 _ (aR hi);simp only[q126] at hmb;dsimp only[nth];refine rf (by omega) ?_;refine rd hi ?_;refine rb (q103 hN _ (hse.1) _ (by (try simp (disch:=omega) only [wrapI]); omega) (by (try simp (disch:=omega) only [wrapI]); omega)) ?_;refine rd hi ?_;refine rb (q103 hN _ (hse.2.1) _ (by (try simp (disch:=omega) only [wrapI]); omega) (by (try simp (disch:=omega) only [wrapI]); omega)) ?_;refine rd hi ?_;refine rb (q103 hN _ (hse.2.2) _ (by (try simp (disch:=omega) only [wrapI]); omega) (by (try simp (disch:=omega) only [wrapI]); omega)) ?_;refine va hn ?_
  (try simp (disch:=omega) only [wrapI])
  simp only[q126];omega
 .intro m next
  dsimp only[nth];exact Ret.eq (re (by omega) (ra rfl))
theorem q871{N:Nat}(hN:1000000000000<=N)(x:List DArc)(hs:x.length<4000000/\∀ e0∈x,(e0.2.2.2.2.1.length<4000000/\∀ e1∈e0.2.2.2.2.1,(e1.1.length<4000000)/\(e1.2.1.length<4000000)/\(e1.2.2.1.length<4000000))/\(e0.2.2.2.2.2.1.length<4000000/\∀ e1∈e0.2.2.2.2.2.1,(e1.1.length<4000000)/\(e1.2.1.length<4000000)/\(e1.2.2.1.length<4000000)))(k:Int)(h0:0<=k)(hb:k+(q313 x:Nat)<=100000000000):F_192 N x k=some (k+(q313 x:Nat)):=by
 unfold F_192;have hlen:x.length<4000000:=hs.1;refine q100 (fun e=>q226 e) hN h0 hb hlen ?_ ?_
 .intro i hi m next hm hmb hn
  have hse:=hs.2 _ (aR hi);simp only[q226] at hmb;dsimp only[nth];refine rf (by omega) ?_;refine rd hi ?_;refine rd hi ?_;refine rd hi ?_;refine rd hi ?_;refine rd hi ?_;refine rb (q570 hN _ (hse.1) _ (by (try simp (disch:=omega) only [wrapI]); omega) (by (try simp (disch:=omega) only [wrapI]); omega)) ?_;refine rd hi ?_;refine rb (q570 hN _ (hse.2) _ (by (try simp (disch:=omega) only [wrapI]); omega) (by (try simp (disch:=omega) only [wrapI]); omega)) ?_;refine va hn ?_
  (try simp (disch:=omega) only [wrapI])
  simp only[q226];omega
 .intro m next
  dsimp only[nth];exact Ret.eq (re (by omega) (ra rfl))
theorem q809{N:Nat}(hN:1000000000000<=N)(x:List DCell)(hs:x.length<4000000/\∀ e0∈x,(e0.1.size<4000000)/\(e0.2.2.1.length<4000000/\∀ e1∈e0.2.2.1,(e1.1.size<4000000))/\(e0.2.2.2.1.length<4000000/\∀ e1∈e0.2.2.2.1,(e1.2.2.2.2.1.length<4000000/\∀ e2∈e1.2.2.2.2.1,(e2.1.length<4000000)/\(e2.2.1.length<4000000)/\(e2.2.2.1.length<4000000))/\(e1.2.2.2.2.2.1.length<4000000/\∀ e2∈e1.2.2.2.2.2.1,(e2.1.length<4000000)/\(e2.2.1.length<4000000)/\(e2.2.2.1.length<4000000)))/\(e0.2.2.2.2.1.length<4000000))(k:Int)(h0:0<=k)(hb:k+(q176 x:Nat)<=100000000000):F_193 N x k=some (k+(q176 x:Nat)):=by
 unfold F_193;have hlen:x.length<4000000:=hs.1;refine q100 (fun e=>q163 e) hN h0 hb hlen ?_ ?_
 .intro i hi m next hm hmb hn
  have hse:=hs.2 _ (aR hi);simp only[q163] at hmb;dsimp only[nth];refine rf (by omega) ?_;refine vd hN (by (try simp (disch:=omega) only [wrapI]); omega) fun _=>?_;refine rd hi ?_;refine rd hi ?_;refine rd hi ?_;refine rb (q850 hN _ (hse.2.1) _ (by (try simp (disch:=omega) only [wrapI]); omega) (by (try simp (disch:=omega) only [wrapI]); omega)) ?_;refine rd hi ?_;refine rb (q871 hN _ (hse.2.2.1) _ (by (try simp (disch:=omega) only [wrapI]); omega) (by (try simp (disch:=omega) only [wrapI]); omega)) ?_;refine rd hi ?_;refine rb (q103 hN _ (hse.2.2.2) _ (by (try simp (disch:=omega) only [wrapI]); omega) (by (try simp (disch:=omega) only [wrapI]); omega)) ?_;refine rd hi ?_;refine rd hi ?_;refine va hn ?_
  (try simp (disch:=omega) only [wrapI])
  simp only[q163];omega
 .intro m next
  dsimp only[nth];exact Ret.eq (re (by omega) (ra rfl))
theorem q705{N:Nat}(hN:1000000000000<=N)(x:DLibrary)(hs:(x.1.length<4000000/\∀ e0∈x.1,(e0.1.size<4000000)/\(e0.2.2.1.length<4000000/\∀ e1∈e0.2.2.1,(e1.1.size<4000000))/\(e0.2.2.2.1.length<4000000/\∀ e1∈e0.2.2.2.1,(e1.2.2.2.2.1.length<4000000/\∀ e2∈e1.2.2.2.2.1,(e2.1.length<4000000)/\(e2.2.1.length<4000000)/\(e2.2.2.1.length<4000000))/\(e1.2.2.2.2.2.1.length<4000000/\∀ e2∈e1.2.2.2.2.2.1,(e2.1.length<4000000)/\(e2.2.1.length<4000000)/\(e2.2.2.1.length<4000000)))/\(e0.2.2.2.2.1.length<4000000)))(k:Int)(h0:0<=k)(hb:k+(q111 x:Nat)<=100000000000):F_194 N x k=some (k+(q111 x:Nat)):=by unfold F_194;unfold q111 at hb |-;refine Ret.eq ?_;refine rb (q809 hN _ (hs) _ (by omega) (by omega)) ?_;exact ra (by omega)
theorem q555{N:Nat}(hN:1000000000000<=N)(x:List DInstance)(hs:x.length<4000000/\∀ e0∈x,(e0.1.size<4000000)/\(e0.2.2.1.length<4000000))(k:Int)(h0:0<=k)(hb:k+(q85 x:Nat)<=100000000000):F_195 N x k=some (k+(q85 x:Nat)):=by
 unfold F_195;have hlen:x.length<4000000:=hs.1;refine q100 (fun e=>q62 e) hN h0 hb hlen ?_ ?_
 .intro i hi m next hm hmb hn
  have hse:=hs.2 _ (aR hi);simp only[q62] at hmb;dsimp only[nth];refine rf (by omega) ?_;refine vd hN (by (try simp (disch:=omega) only [wrapI]); omega) fun _=>?_;refine rd hi ?_;refine rd hi ?_;refine rd hi ?_;refine rb (q103 hN _ (hse.2) _ (by (try simp (disch:=omega) only [wrapI]); omega) (by (try simp (disch:=omega) only [wrapI]); omega)) ?_;refine va hn ?_
  (try simp (disch:=omega) only [wrapI])
  simp only[q62];omega
 .intro m next
  dsimp only[nth];exact Ret.eq (re (by omega) (ra rfl))
theorem q704{N:Nat}(hN:1000000000000<=N)(x:List (ByteArray))(hs:x.length<4000000/\∀ e0∈x,e0.size<4000000)(k:Int)(h0:0<=k)(hb:k+(q112 x:Nat)<=100000000000):F_196 N x k=some (k+(q112 x:Nat)):=by
 unfold F_196;have hlen:x.length<4000000:=hs.1;refine q100 (fun e=>1) hN h0 hb hlen ?_ ?_
 .intro i hi m next hm hmb hn
  (try dsimp only at hmb)
  dsimp only[nth];refine rf (by omega) ?_;refine vd hN (by (try simp (disch:=omega) only [wrapI]); omega) fun _=>?_;refine rd hi ?_;refine va hn ?_
  (try simp (disch:=omega) only [wrapI])
  omega
 .intro m next
  dsimp only[nth];exact Ret.eq (re (by omega) (ra rfl))
theorem q823{N:Nat}(hN:1000000000000<=N)(x:List DPort)(hs:x.length<4000000/\∀ e0∈x,(e0.1.size<4000000))(k:Int)(h0:0<=k)(hb:k+(q177 x:Nat)<=100000000000):F_197 N x k=some (k+(q177 x:Nat)):=by
 unfold F_197;have hlen:x.length<4000000:=hs.1;refine q100 (fun e=>q159 e) hN h0 hb hlen ?_ ?_
 .intro i hi m next hm hmb hn
  have hse:=hs.2 _ (aR hi);simp only[q159] at hmb;dsimp only[nth];refine rf (by omega) ?_;refine vd hN (by (try simp (disch:=omega) only [wrapI]); omega) fun _=>?_;refine rd hi ?_;refine rd hi ?_;refine rd hi ?_;refine va hn ?_
  (try simp (disch:=omega) only [wrapI])
  simp only[q159];omega
 .intro m next
  dsimp only[nth];exact Ret.eq (re (by omega) (ra rfl))
theorem q716{N:Nat}(hN:1000000000000<=N)(x:DDesign)(hs:(x.1.length<4000000/\∀ e0∈x.1,(e0.1.size<4000000)/\(e0.2.2.1.length<4000000))/\(x.2.1.length<4000000/\∀ e0∈x.2.1,e0.size<4000000)/\(x.2.2.1.length<4000000/\∀ e0∈x.2.2.1,(e0.1.size<4000000)))(k:Int)(h0:0<=k)(hb:k+(q140 x:Nat)<=100000000000):F_198 N x k=some (k+(q140 x:Nat)):=by unfold F_198;unfold q140 at hb |-;refine Ret.eq ?_;refine rb (q555 hN _ (hs.1) _ (by omega) (by omega)) ?_;refine rb (q704 hN _ (hs.2.1) _ (by omega) (by omega)) ?_;refine rb (q823 hN _ (hs.2.2) _ (by omega) (by omega)) ?_;exact ra (by omega)
theorem q835{N:Nat}(hN:1000000000000<=N)(x:List DWire)(hs:x.length<4000000/\∀ e0∈x,(e0.1.length<4000000)/\(e0.2.1.length<4000000)/\(e0.2.2.1.length<4000000)/\(e0.2.2.2.1.length<4000000))(k:Int)(h0:0<=k)(hb:k+(q178 x:Nat)<=100000000000):F_199 N x k=some (k+(q178 x:Nat)):=by
 unfold F_199;have hlen:x.length<4000000:=hs.1;refine q100 (fun e=>q156 e) hN h0 hb hlen ?_ ?_
 .intro i hi m next hm hmb hn
  have hse:=hs.2 _ (aR hi);simp only[q156] at hmb;dsimp only[nth];refine rf (by omega) ?_;refine rd hi ?_;refine rb (q103 hN _ (hse.1) _ (by (try simp (disch:=omega) only [wrapI]); omega) (by (try simp (disch:=omega) only [wrapI]); omega)) ?_;refine rd hi ?_;refine rb (q103 hN _ (hse.2.1) _ (by (try simp (disch:=omega) only [wrapI]); omega) (by (try simp (disch:=omega) only [wrapI]); omega)) ?_;refine rd hi ?_;refine rb (q103 hN _ (hse.2.2.1) _ (by (try simp (disch:=omega) only [wrapI]); omega) (by (try simp (disch:=omega) only [wrapI]); omega)) ?_;refine rd hi ?_;refine rb (q103 hN _ (hse.2.2.2) _ (by (try simp (disch:=omega) only [wrapI]); omega) (by (try simp (disch:=omega) only [wrapI]); omega)) ?_;refine va hn ?_
  (try simp (disch:=omega) only [wrapI])
  simp only[q156];omega
 .intro m next
  dsimp only[nth];exact Ret.eq (re (by omega) (ra rfl))
theorem q827{N:Nat}(hN:1000000000000<=N)(x:DBlock)(hs:((x.1.1.length<4000000/\∀ e0∈x.1.1,(e0.1.size<4000000)/\(e0.2.2.1.length<4000000/\∀ e1∈e0.2.2.1,(e1.1.size<4000000))/\(e0.2.2.2.1.length<4000000/\∀ e1∈e0.2.2.2.1,(e1.2.2.2.2.1.length<4000000/\∀ e2∈e1.2.2.2.2.1,(e2.1.length<4000000)/\(e2.2.1.length<4000000)/\(e2.2.2.1.length<4000000))/\(e1.2.2.2.2.2.1.length<4000000/\∀ e2∈e1.2.2.2.2.2.1,(e2.1.length<4000000)/\(e2.2.1.length<4000000)/\(e2.2.2.1.length<4000000)))/\(e0.2.2.2.2.1.length<4000000)))/\((x.2.1.1.length<4000000/\∀ e0∈x.2.1.1,(e0.1.size<4000000)/\(e0.2.2.1.length<4000000))/\(x.2.1.2.1.length<4000000/\∀ e0∈x.2.1.2.1,e0.size<4000000)/\(x.2.1.2.2.1.length<4000000/\∀ e0∈x.2.1.2.2.1,(e0.1.size<4000000)))/\(x.2.2.1.length<4000000/\∀ e0∈x.2.2.1,(e0.1.length<4000000)/\(e0.2.1.length<4000000)/\(e0.2.2.1.length<4000000)/\(e0.2.2.2.1.length<4000000)))(k:Int)(h0:0<=k)(hb:k+(q222 x:Nat)<=100000000000):F_200 N x k=some (k+(q222 x:Nat)):=by unfold F_200;unfold q222 at hb |-;refine Ret.eq ?_;refine rb (q705 hN _ (hs.1) _ (by omega) (by omega)) ?_;refine rb (q716 hN _ (hs.2.1) _ (by omega) (by omega)) ?_;refine rb (q835 hN _ (hs.2.2) _ (by omega) (by omega)) ?_;exact ra (by omega)
end Go.Proofs.YtefbaonpbemejabGreatDoor
