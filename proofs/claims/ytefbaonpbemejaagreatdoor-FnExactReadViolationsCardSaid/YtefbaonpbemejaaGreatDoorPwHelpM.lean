/- The marking functions: how much they mark. Printed by my lawgen.py. No program in sight. -/
import Derived.Test.YtefbaonpbemejaaGreatDoorPgV
namespace Go.Proofs.YtefbaonpbemejaaGreatDoor
set_option linter.unusedSimpArgs false
set_option linter.unusedVariables false
def q208(x:DPin):Nat:=1+1+1+1
def q326(x:List DPin):Nat:=(x.map fun e=>q208 e).sum
def q42(x:List (Int)):Nat:=(x.map fun e=>1).sum
def q127(x:DTable):Nat:=q42 x.1+q42 x.2.1+q42 x.2.2.1
def q137(x:List DTable):Nat:=(x.map fun e=>q127 e).sum
def q218(x:DArc):Nat:=1+1+1+1+q137 x.2.2.2.2.1+q137 x.2.2.2.2.2.1
def q320(x:List DArc):Nat:=(x.map fun e=>q218 e).sum
def q161(x:DCell):Nat:=1+1+q326 x.2.2.1+q320 x.2.2.2.1+q42 x.2.2.2.2.1+1+1
def q175(x:List DCell):Nat:=(x.map fun e=>q161 e).sum
def q153(x:DLibrary):Nat:=q175 x.1
def q119(x:DLibrary):Nat:=q175 x.1
theorem q694(x:DLibrary):q119 x<=q153 x:=by unfold q119 q153;omega
def q61(x:DInstance):Nat:=1+1+q42 x.2.2.1
def q82(x:List DInstance):Nat:=(x.map fun e=>q61 e).sum
def q117(x:List (ByteArray)):Nat:=(x.map fun e=>1).sum
def q157(x:DPort):Nat:=1+1+1
def q182(x:List DPort):Nat:=(x.map fun e=>q157 e).sum
def q176(x:DDesign):Nat:=q82 x.1+q117 x.2.1+q182 x.2.2.1
def q136(x:DDesign):Nat:=q82 x.1+q117 x.2.1+q182 x.2.2.1
theorem q764(x:DDesign):q136 x<=q176 x:=by unfold q136 q176;omega
def q163(x:DWire):Nat:=q42 x.1+q42 x.2.1+q42 x.2.2.1+q42 x.2.2.2.1
def q178(x:List DWire):Nat:=(x.map fun e=>q163 e).sum
def q314(x:DBlock):Nat:=q153 x.1+q176 x.2.1+q178 x.2.2.1
def q231(x:DBlock):Nat:=q119 x.1+q136 x.2.1+q178 x.2.2.1
theorem q816(x:DBlock):q231 x<=q314 x:=by have h0:=q694 x.1;have h1:=q764 x.2.1;unfold q231 q314;omega
theorem sc_Pin{N:Nat}(hN:HN N)(x:DPin)(room:Int)(h:0<=room/\room<=1048576)(hf:(TPin:Ty).fits x)(u:Unit):Ret (F_0 N (x,room,u)) (fun r=>r.1<=room/\(0<=r.1->((x.1.size<4000000))/\(q208 x:Int)<=4+32 * (room - r.1))):=by
 have hm:=q35;unfold F_0;dsimp only;have hf0:=hf.1;rw[wrapI (n:=room - (x.1.size:Int)) (by omega) (by omega)];refine rf ?_ ?_ <;> intro g0
 .exact ra ⟨by show (-1:Int)<=room; omega,fun h=>absurd h (by decide)⟩
 exact ra ⟨by show (room - (x.1.size:Int))<=room; omega,fun _=>⟨(by omega),by simp only[q208]; show _<=4+32 * (room - (room - (x.1.size:Int))); omega⟩⟩
theorem q847{N:Nat}(hN:HN N)(x:List DPin)(room:Int)(h:0<=room/\room<=1048576)(hf:((.slice TPin):Ty).fits x)(u:Unit):Ret (F_1 N (x,room,u)) (fun r=>r.1<=room/\(0<=r.1->(x.length<4000000/\∀ e0∈x,(e0.1.size<4000000))/\(q326 x:Int)<=32 * (room - r.1))):=by
 have hm:=q35;unfold F_1;have hl:=hf.1;dsimp only;rw[wrapI (n:=room - (x.length:Int)) (by omega) (by omega)];refine rf ?_ ?_ <;> intro h1
 .exact ra ⟨by show (-1:Int)<=room; omega,fun h=>absurd h (by decide)⟩
 refine ry 0 x.length (fun i r _=>0<=r/\r<=room - (x.length:Int)/\(∀ j,j<i->∀ h:j<x.length,(x[j].1.size<4000000))/\((((x.take i).map fun e=>q208 e).sum:Nat):Int)<=32 * (i:Int)+32 * (room - (x.length:Int) - r)) (by omega) (by omega) (by omega) ⟨by omega,by omega,q19,by simp⟩ ?_ ?_
 .rintro i r t next _ hi ⟨hr0,hr,hI,hS⟩ hn
  have hfi:=hf.2 _ (aR hi);have hts:=q46 (fun e=>q208 e) hi;dsimp only at hts |-;refine rg ?_ ?_
  .omega
  refine rd hi (Ret.bind (sc_Pin hN x[i] r ⟨hr0,by omega⟩ hfi ()) ?_);rintro ⟨r2,v⟩ ⟨h2,h3⟩;dsimp only at h2 h3 |-;refine rf ?_ ?_ <;> intro h4
  .exact ra ⟨by show (-1:Int)<=room; omega,fun h=>absurd h (by decide)⟩
  .obtain ⟨h5,h6⟩:=h3 (by omega);exact hn _ _ ⟨by omega,by omega,q17 hI fun _=>h5,by rw[hts]; omega⟩
 .rintro r t next ⟨hr0,hr,hI,hS⟩
  rw[aP] at hS;dsimp only;refine re ?_ (ra ⟨by show r<=room; omega,fun _=>⟨⟨by omega,q15.2 fun j hj=>hI j hj hj⟩,?_⟩⟩)
  .omega
  .unfold q326; show _<=32 * (room - r); omega
theorem q109{N:Nat}(hN:HN N)(x:List (Int))(room:Int)(h:0<=room/\room<=1048576)(hf:((.slice (.int .i64)):Ty).fits x)(u:Unit):Ret (F_2 N (x,room,u)) (fun r=>r.1<=room/\(0<=r.1->(x.length<4000000)/\(q42 x:Int)<=32 * (room - r.1))):=by
 have hm:=q35;unfold F_2;have hl:=hf.1;dsimp only;rw[wrapI (n:=room - (x.length:Int)) (by omega) (by omega)];refine rf ?_ ?_ <;> intro h1
 .exact ra ⟨by show (-1:Int)<=room; omega,fun h=>absurd h (by decide)⟩
 .have hc:q42 x<=32 * x.length:=by unfold q42;refine q720 (fun e _=>?_);omega
  exact ra ⟨by show room - (x.length:Int)<=room; omega,fun _=>⟨by omega,by show _<=32 * (room - (room - (x.length:Int))); omega⟩⟩
theorem q812{N:Nat}(hN:HN N)(x:DTable)(room:Int)(h:0<=room/\room<=1048576)(hf:(TTable:Ty).fits x)(u:Unit):Ret (F_3 N (x,room,u)) (fun r=>r.1<=room/\(0<=r.1->((x.1.length<4000000)/\(x.2.1.length<4000000)/\(x.2.2.1.length<4000000))/\(q127 x:Int)<=0+32 * (room - r.1))):=by
 have hm:=q35;unfold F_3;dsimp only;have hf0:=hf.1;refine Ret.bind (q109 hN x.1 room ⟨by omega,by omega⟩ hf0 ()) ?_;rintro ⟨r0,v0⟩ ⟨a0,b0⟩;dsimp only at a0 b0 |-;refine rf ?_ ?_ <;> intro g0
 .exact ra ⟨by show (-1:Int)<=room; omega,fun h=>absurd h (by decide)⟩
 have hf1:=hf.2.1;refine Ret.bind (q109 hN x.2.1 r0 ⟨by omega,by omega⟩ hf1 ()) ?_;rintro ⟨r1,v1⟩ ⟨a1,b1⟩;dsimp only at a1 b1 |-;refine rf ?_ ?_ <;> intro g1
 .exact ra ⟨by show (-1:Int)<=room; omega,fun h=>absurd h (by decide)⟩
 have hf2:=hf.2.2.1;refine Ret.bind (q109 hN x.2.2.1 r1 ⟨by omega,by omega⟩ hf2 ()) ?_;rintro ⟨r2,v2⟩ ⟨a2,b2⟩;dsimp only at a2 b2 |-;refine rf ?_ ?_ <;> intro g2
 .exact ra ⟨by show (-1:Int)<=room; omega,fun h=>absurd h (by decide)⟩
 have c0:=(b0 (by omega)).2;have c1:=(b1 (by omega)).2;have c2:=(b2 (by omega)).2;exact ra ⟨by show r2<=room; omega,fun _=>⟨⟨(b0 (by omega)).1,(b1 (by omega)).1,(b2 (by omega)).1⟩,by simp only[q127]; show _<=0+32 * (room - r2); omega⟩⟩
theorem q541{N:Nat}(hN:HN N)(x:List DTable)(room:Int)(h:0<=room/\room<=1048576)(hf:((.slice TTable):Ty).fits x)(u:Unit):Ret (F_4 N (x,room,u)) (fun r=>r.1<=room/\(0<=r.1->(x.length<4000000/\∀ e0∈x,(e0.1.length<4000000)/\(e0.2.1.length<4000000)/\(e0.2.2.1.length<4000000))/\(q137 x:Int)<=32 * (room - r.1))):=by
 have hm:=q35;unfold F_4;have hl:=hf.1;dsimp only;rw[wrapI (n:=room - (x.length:Int)) (by omega) (by omega)];refine rf ?_ ?_ <;> intro h1
 .exact ra ⟨by show (-1:Int)<=room; omega,fun h=>absurd h (by decide)⟩
 refine ry 0 x.length (fun i r _=>0<=r/\r<=room - (x.length:Int)/\(∀ j,j<i->∀ h:j<x.length,(x[j].1.length<4000000)/\(x[j].2.1.length<4000000)/\(x[j].2.2.1.length<4000000))/\((((x.take i).map fun e=>q127 e).sum:Nat):Int)<=32 * (i:Int)+32 * (room - (x.length:Int) - r)) (by omega) (by omega) (by omega) ⟨by omega,by omega,q19,by simp⟩ ?_ ?_
 .rintro i r t next _ hi ⟨hr0,hr,hI,hS⟩ hn
  have hfi:=hf.2 _ (aR hi);have hts:=q46 (fun e=>q127 e) hi;dsimp only at hts |-;refine rg ?_ ?_
  .omega
  refine rd hi (Ret.bind (q812 hN x[i] r ⟨hr0,by omega⟩ hfi ()) ?_);rintro ⟨r2,v⟩ ⟨h2,h3⟩;dsimp only at h2 h3 |-;refine rf ?_ ?_ <;> intro h4
  .exact ra ⟨by show (-1:Int)<=room; omega,fun h=>absurd h (by decide)⟩
  .obtain ⟨h5,h6⟩:=h3 (by omega);exact hn _ _ ⟨by omega,by omega,q17 hI fun _=>h5,by rw[hts]; omega⟩
 .rintro r t next ⟨hr0,hr,hI,hS⟩
  rw[aP] at hS;dsimp only;refine re ?_ (ra ⟨by show r<=room; omega,fun _=>⟨⟨by omega,q15.2 fun j hj=>hI j hj hj⟩,?_⟩⟩)
  .omega
  .unfold q137; show _<=32 * (room - r); omega
theorem sc_Arc{N:Nat}(hN:HN N)(x:DArc)(room:Int)(h:0<=room/\room<=1048576)(hf:(TArc:Ty).fits x)(u:Unit):Ret (F_5 N (x,room,u)) (fun r=>r.1<=room/\(0<=r.1->((x.2.2.2.2.1.length<4000000/\∀ e0∈x.2.2.2.2.1,(e0.1.length<4000000)/\(e0.2.1.length<4000000)/\(e0.2.2.1.length<4000000))/\(x.2.2.2.2.2.1.length<4000000/\∀ e0∈x.2.2.2.2.2.1,(e0.1.length<4000000)/\(e0.2.1.length<4000000)/\(e0.2.2.1.length<4000000)))/\(q218 x:Int)<=4+32 * (room - r.1))):=by
 have hm:=q35;unfold F_5;dsimp only;have hf0:=hf.2.2.2.2.1;refine Ret.bind (q541 hN x.2.2.2.2.1 room ⟨by omega,by omega⟩ hf0 ()) ?_;rintro ⟨r0,v0⟩ ⟨a0,b0⟩;dsimp only at a0 b0 |-;refine rf ?_ ?_ <;> intro g0
 .exact ra ⟨by show (-1:Int)<=room; omega,fun h=>absurd h (by decide)⟩
 have hf1:=hf.2.2.2.2.2.1;refine Ret.bind (q541 hN x.2.2.2.2.2.1 r0 ⟨by omega,by omega⟩ hf1 ()) ?_;rintro ⟨r1,v1⟩ ⟨a1,b1⟩;dsimp only at a1 b1 |-;refine rf ?_ ?_ <;> intro g1
 .exact ra ⟨by show (-1:Int)<=room; omega,fun h=>absurd h (by decide)⟩
 have c0:=(b0 (by omega)).2;have c1:=(b1 (by omega)).2;exact ra ⟨by show r1<=room; omega,fun _=>⟨⟨(b0 (by omega)).1,(b1 (by omega)).1⟩,by simp only[q218]; show _<=4+32 * (room - r1); omega⟩⟩
theorem q878{N:Nat}(hN:HN N)(x:List DArc)(room:Int)(h:0<=room/\room<=1048576)(hf:((.slice TArc):Ty).fits x)(u:Unit):Ret (F_6 N (x,room,u)) (fun r=>r.1<=room/\(0<=r.1->(x.length<4000000/\∀ e0∈x,(e0.2.2.2.2.1.length<4000000/\∀ e1∈e0.2.2.2.2.1,(e1.1.length<4000000)/\(e1.2.1.length<4000000)/\(e1.2.2.1.length<4000000))/\(e0.2.2.2.2.2.1.length<4000000/\∀ e1∈e0.2.2.2.2.2.1,(e1.1.length<4000000)/\(e1.2.1.length<4000000)/\(e1.2.2.1.length<4000000)))/\(q320 x:Int)<=32 * (room - r.1))):=by
 have hm:=q35;unfold F_6;have hl:=hf.1;dsimp only;rw[wrapI (n:=room - (x.length:Int)) (by omega) (by omega)];refine rf ?_ ?_ <;> intro h1
 .exact ra ⟨by show (-1:Int)<=room; omega,fun h=>absurd h (by decide)⟩
 refine ry 0 x.length (fun i r _=>0<=r/\r<=room - (x.length:Int)/\(∀ j,j<i->∀ h:j<x.length,(x[j].2.2.2.2.1.length<4000000/\∀ e0∈x[j].2.2.2.2.1,(e0.1.length<4000000)/\(e0.2.1.length<4000000)/\(e0.2.2.1.length<4000000))/\(x[j].2.2.2.2.2.1.length<4000000/\∀ e0∈x[j].2.2.2.2.2.1,(e0.1.length<4000000)/\(e0.2.1.length<4000000)/\(e0.2.2.1.length<4000000)))/\((((x.take i).map fun e=>q218 e).sum:Nat):Int)<=32 * (i:Int)+32 * (room - (x.length:Int) - r)) (by omega) (by omega) (by omega) ⟨by omega,by omega,q19,by simp⟩ ?_ ?_
 .rintro i r t next _ hi ⟨hr0,hr,hI,hS⟩ hn
  have hfi:=hf.2 _ (aR hi);have hts:=q46 (fun e=>q218 e) hi;dsimp only at hts |-;refine rg ?_ ?_
  .omega
  refine rd hi (Ret.bind (sc_Arc hN x[i] r ⟨hr0,by omega⟩ hfi ()) ?_);rintro ⟨r2,v⟩ ⟨h2,h3⟩;dsimp only at h2 h3 |-;refine rf ?_ ?_ <;> intro h4
  .exact ra ⟨by show (-1:Int)<=room; omega,fun h=>absurd h (by decide)⟩
  .obtain ⟨h5,h6⟩:=h3 (by omega);exact hn _ _ ⟨by omega,by omega,q17 hI fun _=>h5,by rw[hts]; omega⟩
 .rintro r t next ⟨hr0,hr,hI,hS⟩
  rw[aP] at hS;dsimp only;refine re ?_ (ra ⟨by show r<=room; omega,fun _=>⟨⟨by omega,q15.2 fun j hj=>hI j hj hj⟩,?_⟩⟩)
  .omega
  .unfold q320; show _<=32 * (room - r); omega
theorem q868{N:Nat}(hN:HN N)(x:DCell)(room:Int)(h:0<=room/\room<=1048576)(hf:(TCell:Ty).fits x)(u:Unit):Ret (F_7 N (x,room,u)) (fun r=>r.1<=room/\(0<=r.1->((x.1.size<4000000)/\(x.2.2.1.length<4000000/\∀ e0∈x.2.2.1,(e0.1.size<4000000))/\(x.2.2.2.1.length<4000000/\∀ e0∈x.2.2.2.1,(e0.2.2.2.2.1.length<4000000/\∀ e1∈e0.2.2.2.2.1,(e1.1.length<4000000)/\(e1.2.1.length<4000000)/\(e1.2.2.1.length<4000000))/\(e0.2.2.2.2.2.1.length<4000000/\∀ e1∈e0.2.2.2.2.2.1,(e1.1.length<4000000)/\(e1.2.1.length<4000000)/\(e1.2.2.1.length<4000000)))/\(x.2.2.2.2.1.length<4000000))/\(q161 x:Int)<=4+32 * (room - r.1))):=by
 have hm:=q35;unfold F_7;dsimp only;have hf0:=hf.1;rw[wrapI (n:=room - (x.1.size:Int)) (by omega) (by omega)];refine rf ?_ ?_ <;> intro g0
 .exact ra ⟨by show (-1:Int)<=room; omega,fun h=>absurd h (by decide)⟩
 have hf1:=hf.2.2.1;refine Ret.bind (q847 hN x.2.2.1 (room - (x.1.size:Int)) ⟨by omega,by omega⟩ hf1 ()) ?_;rintro ⟨r1,v1⟩ ⟨a1,b1⟩;dsimp only at a1 b1 |-;refine rf ?_ ?_ <;> intro g1
 .exact ra ⟨by show (-1:Int)<=room; omega,fun h=>absurd h (by decide)⟩
 have hf2:=hf.2.2.2.1;refine Ret.bind (q878 hN x.2.2.2.1 r1 ⟨by omega,by omega⟩ hf2 ()) ?_;rintro ⟨r2,v2⟩ ⟨a2,b2⟩;dsimp only at a2 b2 |-;refine rf ?_ ?_ <;> intro g2
 .exact ra ⟨by show (-1:Int)<=room; omega,fun h=>absurd h (by decide)⟩
 have hf3:=hf.2.2.2.2.1;refine Ret.bind (q109 hN x.2.2.2.2.1 r2 ⟨by omega,by omega⟩ hf3 ()) ?_;rintro ⟨r3,v3⟩ ⟨a3,b3⟩;dsimp only at a3 b3 |-;refine rf ?_ ?_ <;> intro g3
 .exact ra ⟨by show (-1:Int)<=room; omega,fun h=>absurd h (by decide)⟩
 have c1:=(b1 (by omega)).2;have c2:=(b2 (by omega)).2;have c3:=(b3 (by omega)).2;exact ra ⟨by show r3<=room; omega,fun _=>⟨⟨(by omega),(b1 (by omega)).1,(b2 (by omega)).1,(b3 (by omega)).1⟩,by simp only[q161]; show _<=4+32 * (room - r3); omega⟩⟩
theorem q799{N:Nat}(hN:HN N)(x:List DCell)(room:Int)(h:0<=room/\room<=1048576)(hf:((.slice TCell):Ty).fits x)(u:Unit):Ret (F_8 N (x,room,u)) (fun r=>r.1<=room/\(0<=r.1->(x.length<4000000/\∀ e0∈x,(e0.1.size<4000000)/\(e0.2.2.1.length<4000000/\∀ e1∈e0.2.2.1,(e1.1.size<4000000))/\(e0.2.2.2.1.length<4000000/\∀ e1∈e0.2.2.2.1,(e1.2.2.2.2.1.length<4000000/\∀ e2∈e1.2.2.2.2.1,(e2.1.length<4000000)/\(e2.2.1.length<4000000)/\(e2.2.2.1.length<4000000))/\(e1.2.2.2.2.2.1.length<4000000/\∀ e2∈e1.2.2.2.2.2.1,(e2.1.length<4000000)/\(e2.2.1.length<4000000)/\(e2.2.2.1.length<4000000)))/\(e0.2.2.2.2.1.length<4000000))/\(q175 x:Int)<=32 * (room - r.1))):=by
 have hm:=q35;unfold F_8;have hl:=hf.1;dsimp only;rw[wrapI (n:=room - (x.length:Int)) (by omega) (by omega)];refine rf ?_ ?_ <;> intro h1
 .exact ra ⟨by show (-1:Int)<=room; omega,fun h=>absurd h (by decide)⟩
 refine ry 0 x.length (fun i r _=>0<=r/\r<=room - (x.length:Int)/\(∀ j,j<i->∀ h:j<x.length,(x[j].1.size<4000000)/\(x[j].2.2.1.length<4000000/\∀ e0∈x[j].2.2.1,(e0.1.size<4000000))/\(x[j].2.2.2.1.length<4000000/\∀ e0∈x[j].2.2.2.1,(e0.2.2.2.2.1.length<4000000/\∀ e1∈e0.2.2.2.2.1,(e1.1.length<4000000)/\(e1.2.1.length<4000000)/\(e1.2.2.1.length<4000000))/\(e0.2.2.2.2.2.1.length<4000000/\∀ e1∈e0.2.2.2.2.2.1,(e1.1.length<4000000)/\(e1.2.1.length<4000000)/\(e1.2.2.1.length<4000000)))/\(x[j].2.2.2.2.1.length<4000000))/\((((x.take i).map fun e=>q161 e).sum:Nat):Int)<=32 * (i:Int)+32 * (room - (x.length:Int) - r)) (by omega) (by omega) (by omega) ⟨by omega,by omega,q19,by simp⟩ ?_ ?_
 .rintro i r t next _ hi ⟨hr0,hr,hI,hS⟩ hn
  have hfi:=hf.2 _ (aR hi);have hts:=q46 (fun e=>q161 e) hi;dsimp only at hts |-;refine rg ?_ ?_
  .omega
  refine rd hi (Ret.bind (q868 hN x[i] r ⟨hr0,by omega⟩ hfi ()) ?_);rintro ⟨r2,v⟩ ⟨h2,h3⟩;dsimp only at h2 h3 |-;refine rf ?_ ?_ <;> intro h4
  .exact ra ⟨by show (-1:Int)<=room; omega,fun h=>absurd h (by decide)⟩
  .obtain ⟨h5,h6⟩:=h3 (by omega);exact hn _ _ ⟨by omega,by omega,q17 hI fun _=>h5,by rw[hts]; omega⟩
 .rintro r t next ⟨hr0,hr,hI,hS⟩
  rw[aP] at hS;dsimp only;refine re ?_ (ra ⟨by show r<=room; omega,fun _=>⟨⟨by omega,q15.2 fun j hj=>hI j hj hj⟩,?_⟩⟩)
  .omega
  .unfold q175; show _<=32 * (room - r); omega
theorem q723{N:Nat}(hN:HN N)(x:DLibrary)(room:Int)(h:0<=room/\room<=1048576)(hf:(TLibrary:Ty).fits x)(u:Unit):Ret (F_9 N (x,room,u)) (fun r=>r.1<=room/\(0<=r.1->((x.1.length<4000000/\∀ e0∈x.1,(e0.1.size<4000000)/\(e0.2.2.1.length<4000000/\∀ e1∈e0.2.2.1,(e1.1.size<4000000))/\(e0.2.2.2.1.length<4000000/\∀ e1∈e0.2.2.2.1,(e1.2.2.2.2.1.length<4000000/\∀ e2∈e1.2.2.2.2.1,(e2.1.length<4000000)/\(e2.2.1.length<4000000)/\(e2.2.2.1.length<4000000))/\(e1.2.2.2.2.2.1.length<4000000/\∀ e2∈e1.2.2.2.2.2.1,(e2.1.length<4000000)/\(e2.2.1.length<4000000)/\(e2.2.2.1.length<4000000)))/\(e0.2.2.2.2.1.length<4000000)))/\(q153 x:Int)<=0+32 * (room - r.1))):=by
 have hm:=q35;unfold F_9;dsimp only;have hf0:=hf.1;refine Ret.bind (q799 hN x.1 room ⟨by omega,by omega⟩ hf0 ()) ?_;rintro ⟨r0,v0⟩ ⟨a0,b0⟩;dsimp only at a0 b0 |-;refine rf ?_ ?_ <;> intro g0
 .exact ra ⟨by show (-1:Int)<=room; omega,fun h=>absurd h (by decide)⟩
 have c0:=(b0 (by omega)).2;exact ra ⟨by show r0<=room; omega,fun _=>⟨(b0 (by omega)).1,by simp only[q153]; show _<=0+32 * (room - r0); omega⟩⟩
theorem q608{N:Nat}(hN:HN N)(x:DInstance)(room:Int)(h:0<=room/\room<=1048576)(hf:(TInstance:Ty).fits x)(u:Unit):Ret (F_10 N (x,room,u)) (fun r=>r.1<=room/\(0<=r.1->((x.1.size<4000000)/\(x.2.2.1.length<4000000))/\(q61 x:Int)<=2+32 * (room - r.1))):=by
 have hm:=q35;unfold F_10;dsimp only;have hf0:=hf.1;rw[wrapI (n:=room - (x.1.size:Int)) (by omega) (by omega)];refine rf ?_ ?_ <;> intro g0
 .exact ra ⟨by show (-1:Int)<=room; omega,fun h=>absurd h (by decide)⟩
 have hf1:=hf.2.2.1;refine Ret.bind (q109 hN x.2.2.1 (room - (x.1.size:Int)) ⟨by omega,by omega⟩ hf1 ()) ?_;rintro ⟨r1,v1⟩ ⟨a1,b1⟩;dsimp only at a1 b1 |-;refine rf ?_ ?_ <;> intro g1
 .exact ra ⟨by show (-1:Int)<=room; omega,fun h=>absurd h (by decide)⟩
 have c1:=(b1 (by omega)).2;exact ra ⟨by show r1<=room; omega,fun _=>⟨⟨(by omega),(b1 (by omega)).1⟩,by simp only[q61]; show _<=2+32 * (room - r1); omega⟩⟩
theorem q530{N:Nat}(hN:HN N)(x:List DInstance)(room:Int)(h:0<=room/\room<=1048576)(hf:((.slice TInstance):Ty).fits x)(u:Unit):Ret (F_11 N (x,room,u)) (fun r=>r.1<=room/\(0<=r.1->(x.length<4000000/\∀ e0∈x,(e0.1.size<4000000)/\(e0.2.2.1.length<4000000))/\(q82 x:Int)<=32 * (room - r.1))):=by
 have hm:=q35;unfold F_11;have hl:=hf.1;dsimp only;rw[wrapI (n:=room - (x.length:Int)) (by omega) (by omega)];refine rf ?_ ?_ <;> intro h1
 .exact ra ⟨by show (-1:Int)<=room; omega,fun h=>absurd h (by decide)⟩
 refine ry 0 x.length (fun i r _=>0<=r/\r<=room - (x.length:Int)/\(∀ j,j<i->∀ h:j<x.length,(x[j].1.size<4000000)/\(x[j].2.2.1.length<4000000))/\((((x.take i).map fun e=>q61 e).sum:Nat):Int)<=32 * (i:Int)+32 * (room - (x.length:Int) - r)) (by omega) (by omega) (by omega) ⟨by omega,by omega,q19,by simp⟩ ?_ ?_
 .rintro i r t next _ hi ⟨hr0,hr,hI,hS⟩ hn
  have hfi:=hf.2 _ (aR hi);have hts:=q46 (fun e=>q61 e) hi;dsimp only at hts |-;refine rg ?_ ?_
  .omega
  refine rd hi (Ret.bind (q608 hN x[i] r ⟨hr0,by omega⟩ hfi ()) ?_);rintro ⟨r2,v⟩ ⟨h2,h3⟩;dsimp only at h2 h3 |-;refine rf ?_ ?_ <;> intro h4
  .exact ra ⟨by show (-1:Int)<=room; omega,fun h=>absurd h (by decide)⟩
  .obtain ⟨h5,h6⟩:=h3 (by omega);exact hn _ _ ⟨by omega,by omega,q17 hI fun _=>h5,by rw[hts]; omega⟩
 .rintro r t next ⟨hr0,hr,hI,hS⟩
  rw[aP] at hS;dsimp only;refine re ?_ (ra ⟨by show r<=room; omega,fun _=>⟨⟨by omega,q15.2 fun j hj=>hI j hj hj⟩,?_⟩⟩)
  .omega
  .unfold q82; show _<=32 * (room - r); omega
theorem q691{N:Nat}(hN:HN N)(x:List (ByteArray))(room:Int)(h:0<=room/\room<=1048576)(hf:((.slice (.str)):Ty).fits x)(u:Unit):Ret (F_12 N (x,room,u)) (fun r=>r.1<=room/\(0<=r.1->(x.length<4000000/\∀ e0∈x,e0.size<4000000)/\(q117 x:Int)<=32 * (room - r.1))):=by
 have hm:=q35;unfold F_12;have hl:=hf.1;dsimp only;rw[wrapI (n:=room - (x.length:Int)) (by omega) (by omega)];refine rf ?_ ?_ <;> intro h1
 .exact ra ⟨by show (-1:Int)<=room; omega,fun h=>absurd h (by decide)⟩
 refine ry 0 x.length (fun i r _=>0<=r/\r<=room - (x.length:Int)/\(∀ j,j<i->∀ h:j<x.length,x[j].size<4000000)/\((((x.take i).map fun e=>1).sum:Nat):Int)<=32 * (i:Int)+32 * (room - (x.length:Int) - r)) (by omega) (by omega) (by omega) ⟨by omega,by omega,q19,by simp⟩ ?_ ?_
 .rintro i r t next _ hi ⟨hr0,hr,hI,hS⟩ hn
  have hfi:=hf.2 _ (aR hi);have hts:=q46 (fun e=>1) hi;dsimp only at hts |-;refine rg ?_ ?_
  .omega
  refine rd hi ?_;have hfi:x[i].size<=maxLen:=hfi;rw[wrapI (n:=r - (x[i].size:Int)) (by omega) (by omega)];refine rf ?_ ?_ <;> intro h2
  .exact ra ⟨by show (-1:Int)<=room; omega,fun h=>absurd h (by decide)⟩
  .exact hn _ _ ⟨by omega,by omega,q17 hI fun _=>by omega,by rw[hts]; omega⟩
 .rintro r t next ⟨hr0,hr,hI,hS⟩
  rw[aP] at hS;dsimp only;refine re ?_ (ra ⟨by show r<=room; omega,fun _=>⟨⟨by omega,q15.2 fun j hj=>hI j hj hj⟩,?_⟩⟩)
  .omega
  .unfold q117; show _<=32 * (room - r); omega
theorem q873{N:Nat}(hN:HN N)(x:DPort)(room:Int)(h:0<=room/\room<=1048576)(hf:(TPort:Ty).fits x)(u:Unit):Ret (F_13 N (x,room,u)) (fun r=>r.1<=room/\(0<=r.1->((x.1.size<4000000))/\(q157 x:Int)<=3+32 * (room - r.1))):=by
 have hm:=q35;unfold F_13;dsimp only;have hf0:=hf.1;rw[wrapI (n:=room - (x.1.size:Int)) (by omega) (by omega)];refine rf ?_ ?_ <;> intro g0
 .exact ra ⟨by show (-1:Int)<=room; omega,fun h=>absurd h (by decide)⟩
 exact ra ⟨by show (room - (x.1.size:Int))<=room; omega,fun _=>⟨(by omega),by simp only[q157]; show _<=3+32 * (room - (room - (x.1.size:Int))); omega⟩⟩
theorem q844{N:Nat}(hN:HN N)(x:List DPort)(room:Int)(h:0<=room/\room<=1048576)(hf:((.slice TPort):Ty).fits x)(u:Unit):Ret (F_14 N (x,room,u)) (fun r=>r.1<=room/\(0<=r.1->(x.length<4000000/\∀ e0∈x,(e0.1.size<4000000))/\(q182 x:Int)<=32 * (room - r.1))):=by
 have hm:=q35;unfold F_14;have hl:=hf.1;dsimp only;rw[wrapI (n:=room - (x.length:Int)) (by omega) (by omega)];refine rf ?_ ?_ <;> intro h1
 .exact ra ⟨by show (-1:Int)<=room; omega,fun h=>absurd h (by decide)⟩
 refine ry 0 x.length (fun i r _=>0<=r/\r<=room - (x.length:Int)/\(∀ j,j<i->∀ h:j<x.length,(x[j].1.size<4000000))/\((((x.take i).map fun e=>q157 e).sum:Nat):Int)<=32 * (i:Int)+32 * (room - (x.length:Int) - r)) (by omega) (by omega) (by omega) ⟨by omega,by omega,q19,by simp⟩ ?_ ?_
 .rintro i r t next _ hi ⟨hr0,hr,hI,hS⟩ hn
  have hfi:=hf.2 _ (aR hi);have hts:=q46 (fun e=>q157 e) hi;dsimp only at hts |-;refine rg ?_ ?_
  .omega
  refine rd hi (Ret.bind (q873 hN x[i] r ⟨hr0,by omega⟩ hfi ()) ?_);rintro ⟨r2,v⟩ ⟨h2,h3⟩;dsimp only at h2 h3 |-;refine rf ?_ ?_ <;> intro h4
  .exact ra ⟨by show (-1:Int)<=room; omega,fun h=>absurd h (by decide)⟩
  .obtain ⟨h5,h6⟩:=h3 (by omega);exact hn _ _ ⟨by omega,by omega,q17 hI fun _=>h5,by rw[hts]; omega⟩
 .rintro r t next ⟨hr0,hr,hI,hS⟩
  rw[aP] at hS;dsimp only;refine re ?_ (ra ⟨by show r<=room; omega,fun _=>⟨⟨by omega,q15.2 fun j hj=>hI j hj hj⟩,?_⟩⟩)
  .omega
  .unfold q182; show _<=32 * (room - r); omega
theorem q737{N:Nat}(hN:HN N)(x:DDesign)(room:Int)(h:0<=room/\room<=1048576)(hf:(TDesign:Ty).fits x)(u:Unit):Ret (F_15 N (x,room,u)) (fun r=>r.1<=room/\(0<=r.1->((x.1.length<4000000/\∀ e0∈x.1,(e0.1.size<4000000)/\(e0.2.2.1.length<4000000))/\(x.2.1.length<4000000/\∀ e0∈x.2.1,e0.size<4000000)/\(x.2.2.1.length<4000000/\∀ e0∈x.2.2.1,(e0.1.size<4000000)))/\(q176 x:Int)<=0+32 * (room - r.1))):=by
 have hm:=q35;unfold F_15;dsimp only;have hf0:=hf.1;refine Ret.bind (q530 hN x.1 room ⟨by omega,by omega⟩ hf0 ()) ?_;rintro ⟨r0,v0⟩ ⟨a0,b0⟩;dsimp only at a0 b0 |-;refine rf ?_ ?_ <;> intro g0
 .exact ra ⟨by show (-1:Int)<=room; omega,fun h=>absurd h (by decide)⟩
 have hf1:=hf.2.1;refine Ret.bind (q691 hN x.2.1 r0 ⟨by omega,by omega⟩ hf1 ()) ?_;rintro ⟨r1,v1⟩ ⟨a1,b1⟩;dsimp only at a1 b1 |-;refine rf ?_ ?_ <;> intro g1
 .exact ra ⟨by show (-1:Int)<=room; omega,fun h=>absurd h (by decide)⟩
 have hf2:=hf.2.2.1;refine Ret.bind (q844 hN x.2.2.1 r1 ⟨by omega,by omega⟩ hf2 ()) ?_;rintro ⟨r2,v2⟩ ⟨a2,b2⟩;dsimp only at a2 b2 |-;refine rf ?_ ?_ <;> intro g2
 .exact ra ⟨by show (-1:Int)<=room; omega,fun h=>absurd h (by decide)⟩
 have c0:=(b0 (by omega)).2;have c1:=(b1 (by omega)).2;have c2:=(b2 (by omega)).2;exact ra ⟨by show r2<=room; omega,fun _=>⟨⟨(b0 (by omega)).1,(b1 (by omega)).1,(b2 (by omega)).1⟩,by simp only[q176]; show _<=0+32 * (room - r2); omega⟩⟩
theorem q851{N:Nat}(hN:HN N)(x:DWire)(room:Int)(h:0<=room/\room<=1048576)(hf:(TWire:Ty).fits x)(u:Unit):Ret (F_16 N (x,room,u)) (fun r=>r.1<=room/\(0<=r.1->((x.1.length<4000000)/\(x.2.1.length<4000000)/\(x.2.2.1.length<4000000)/\(x.2.2.2.1.length<4000000))/\(q163 x:Int)<=0+32 * (room - r.1))):=by
 have hm:=q35;unfold F_16;dsimp only;have hf0:=hf.1;refine Ret.bind (q109 hN x.1 room ⟨by omega,by omega⟩ hf0 ()) ?_;rintro ⟨r0,v0⟩ ⟨a0,b0⟩;dsimp only at a0 b0 |-;refine rf ?_ ?_ <;> intro g0
 .exact ra ⟨by show (-1:Int)<=room; omega,fun h=>absurd h (by decide)⟩
 have hf1:=hf.2.1;refine Ret.bind (q109 hN x.2.1 r0 ⟨by omega,by omega⟩ hf1 ()) ?_;rintro ⟨r1,v1⟩ ⟨a1,b1⟩;dsimp only at a1 b1 |-;refine rf ?_ ?_ <;> intro g1
 .exact ra ⟨by show (-1:Int)<=room; omega,fun h=>absurd h (by decide)⟩
 have hf2:=hf.2.2.1;refine Ret.bind (q109 hN x.2.2.1 r1 ⟨by omega,by omega⟩ hf2 ()) ?_;rintro ⟨r2,v2⟩ ⟨a2,b2⟩;dsimp only at a2 b2 |-;refine rf ?_ ?_ <;> intro g2
 .exact ra ⟨by show (-1:Int)<=room; omega,fun h=>absurd h (by decide)⟩
 have hf3:=hf.2.2.2.1;refine Ret.bind (q109 hN x.2.2.2.1 r2 ⟨by omega,by omega⟩ hf3 ()) ?_;rintro ⟨r3,v3⟩ ⟨a3,b3⟩;dsimp only at a3 b3 |-;refine rf ?_ ?_ <;> intro g3
 .exact ra ⟨by show (-1:Int)<=room; omega,fun h=>absurd h (by decide)⟩
 have c0:=(b0 (by omega)).2;have c1:=(b1 (by omega)).2;have c2:=(b2 (by omega)).2;have c3:=(b3 (by omega)).2;exact ra ⟨by show r3<=room; omega,fun _=>⟨⟨(b0 (by omega)).1,(b1 (by omega)).1,(b2 (by omega)).1,(b3 (by omega)).1⟩,by simp only[q163]; show _<=0+32 * (room - r3); omega⟩⟩
theorem q826{N:Nat}(hN:HN N)(x:List DWire)(room:Int)(h:0<=room/\room<=1048576)(hf:((.slice TWire):Ty).fits x)(u:Unit):Ret (F_17 N (x,room,u)) (fun r=>r.1<=room/\(0<=r.1->(x.length<4000000/\∀ e0∈x,(e0.1.length<4000000)/\(e0.2.1.length<4000000)/\(e0.2.2.1.length<4000000)/\(e0.2.2.2.1.length<4000000))/\(q178 x:Int)<=32 * (room - r.1))):=by
 have hm:=q35;unfold F_17;have hl:=hf.1;dsimp only;rw[wrapI (n:=room - (x.length:Int)) (by omega) (by omega)];refine rf ?_ ?_ <;> intro h1
 .exact ra ⟨by show (-1:Int)<=room; omega,fun h=>absurd h (by decide)⟩
 refine ry 0 x.length (fun i r _=>0<=r/\r<=room - (x.length:Int)/\(∀ j,j<i->∀ h:j<x.length,(x[j].1.length<4000000)/\(x[j].2.1.length<4000000)/\(x[j].2.2.1.length<4000000)/\(x[j].2.2.2.1.length<4000000))/\((((x.take i).map fun e=>q163 e).sum:Nat):Int)<=32 * (i:Int)+32 * (room - (x.length:Int) - r)) (by omega) (by omega) (by omega) ⟨by omega,by omega,q19,by simp⟩ ?_ ?_
 .rintro i r t next _ hi ⟨hr0,hr,hI,hS⟩ hn
  have hfi:=hf.2 _ (aR hi);have hts:=q46 (fun e=>q163 e) hi;dsimp only at hts |-;refine rg ?_ ?_
  .omega
  refine rd hi (Ret.bind (q851 hN x[i] r ⟨hr0,by omega⟩ hfi ()) ?_);rintro ⟨r2,v⟩ ⟨h2,h3⟩;dsimp only at h2 h3 |-;refine rf ?_ ?_ <;> intro h4
  .exact ra ⟨by show (-1:Int)<=room; omega,fun h=>absurd h (by decide)⟩
  .obtain ⟨h5,h6⟩:=h3 (by omega);exact hn _ _ ⟨by omega,by omega,q17 hI fun _=>h5,by rw[hts]; omega⟩
 .rintro r t next ⟨hr0,hr,hI,hS⟩
  rw[aP] at hS;dsimp only;refine re ?_ (ra ⟨by show r<=room; omega,fun _=>⟨⟨by omega,q15.2 fun j hj=>hI j hj hj⟩,?_⟩⟩)
  .omega
  .unfold q178; show _<=32 * (room - r); omega
theorem q819{N:Nat}(hN:HN N)(x:DBlock)(room:Int)(h:0<=room/\room<=1048576)(hf:(TBlock:Ty).fits x)(u:Unit):Ret (F_18 N (x,room,u)) (fun r=>r.1<=room/\(0<=r.1->(((x.1.1.length<4000000/\∀ e0∈x.1.1,(e0.1.size<4000000)/\(e0.2.2.1.length<4000000/\∀ e1∈e0.2.2.1,(e1.1.size<4000000))/\(e0.2.2.2.1.length<4000000/\∀ e1∈e0.2.2.2.1,(e1.2.2.2.2.1.length<4000000/\∀ e2∈e1.2.2.2.2.1,(e2.1.length<4000000)/\(e2.2.1.length<4000000)/\(e2.2.2.1.length<4000000))/\(e1.2.2.2.2.2.1.length<4000000/\∀ e2∈e1.2.2.2.2.2.1,(e2.1.length<4000000)/\(e2.2.1.length<4000000)/\(e2.2.2.1.length<4000000)))/\(e0.2.2.2.2.1.length<4000000)))/\((x.2.1.1.length<4000000/\∀ e0∈x.2.1.1,(e0.1.size<4000000)/\(e0.2.2.1.length<4000000))/\(x.2.1.2.1.length<4000000/\∀ e0∈x.2.1.2.1,e0.size<4000000)/\(x.2.1.2.2.1.length<4000000/\∀ e0∈x.2.1.2.2.1,(e0.1.size<4000000)))/\(x.2.2.1.length<4000000/\∀ e0∈x.2.2.1,(e0.1.length<4000000)/\(e0.2.1.length<4000000)/\(e0.2.2.1.length<4000000)/\(e0.2.2.2.1.length<4000000)))/\(q314 x:Int)<=0+32 * (room - r.1))):=by
 have hm:=q35;unfold F_18;dsimp only;have hf0:=hf.1;refine Ret.bind (q723 hN x.1 room ⟨by omega,by omega⟩ hf0 ()) ?_;rintro ⟨r0,v0⟩ ⟨a0,b0⟩;dsimp only at a0 b0 |-;refine rf ?_ ?_ <;> intro g0
 .exact ra ⟨by show (-1:Int)<=room; omega,fun h=>absurd h (by decide)⟩
 have hf1:=hf.2.1;refine Ret.bind (q737 hN x.2.1 r0 ⟨by omega,by omega⟩ hf1 ()) ?_;rintro ⟨r1,v1⟩ ⟨a1,b1⟩;dsimp only at a1 b1 |-;refine rf ?_ ?_ <;> intro g1
 .exact ra ⟨by show (-1:Int)<=room; omega,fun h=>absurd h (by decide)⟩
 have hf2:=hf.2.2.1;refine Ret.bind (q826 hN x.2.2.1 r1 ⟨by omega,by omega⟩ hf2 ()) ?_;rintro ⟨r2,v2⟩ ⟨a2,b2⟩;dsimp only at a2 b2 |-;refine rf ?_ ?_ <;> intro g2
 .exact ra ⟨by show (-1:Int)<=room; omega,fun h=>absurd h (by decide)⟩
 have c0:=(b0 (by omega)).2;have c1:=(b1 (by omega)).2;have c2:=(b2 (by omega)).2;exact ra ⟨by show r2<=room; omega,fun _=>⟨⟨(b0 (by omega)).1,(b1 (by omega)).1,(b2 (by omega)).1⟩,by simp only[q314]; show _<=0+32 * (room - r2); omega⟩⟩
theorem q853{N:Nat}(hN:1000000000000<=N)(x:List DPin)(hs:x.length<4000000/\∀ e0∈x,(e0.1.size<4000000))(k:Int)(h0:0<=k)(hb:k+(q326 x:Nat)<=100000000000):F_188 N x k=some (k+(q326 x:Nat)):=by
 unfold F_188;have hlen:x.length<4000000:=hs.1;refine q101 (fun e=>q208 e) hN h0 hb hlen ?_ ?_
 .intro i hi m next hm hmb hn
  have hse:=hs.2 _ (aR hi);simp only[q208] at hmb;dsimp only[nth];refine rg (by omega) ?_;refine ve hN (by (try simp (disch:=omega) only [wrapI]); omega) fun _=>?_;refine rd hi ?_;refine rd hi ?_;refine rd hi ?_;refine rd hi ?_;refine va hn ?_
  (try simp (disch:=omega) only [wrapI])
  simp only[q208];omega
 .intro m next
  dsimp only[nth];exact Ret.eq (re (by omega) (ra rfl))
theorem q106{N:Nat}(hN:1000000000000<=N)(x:List (Int))(hs:x.length<4000000)(k:Int)(h0:0<=k)(hb:k+(q42 x:Nat)<=100000000000):F_189 N x k=some (k+(q42 x:Nat)):=by
 unfold F_189;have hlen:x.length<4000000:=hs;refine q101 (fun e=>1) hN h0 hb hlen ?_ ?_
 .intro i hi m next hm hmb hn
  (try dsimp only at hmb)
  dsimp only[nth];refine rg (by omega) ?_;refine rd hi ?_;refine va hn ?_
  (try simp (disch:=omega) only [wrapI])
  omega
 .intro m next
  dsimp only[nth];exact Ret.eq (re (by omega) (ra rfl))
theorem q594{N:Nat}(hN:1000000000000<=N)(x:List DTable)(hs:x.length<4000000/\∀ e0∈x,(e0.1.length<4000000)/\(e0.2.1.length<4000000)/\(e0.2.2.1.length<4000000))(k:Int)(h0:0<=k)(hb:k+(q137 x:Nat)<=100000000000):F_190 N x k=some (k+(q137 x:Nat)):=by
 unfold F_190;have hlen:x.length<4000000:=hs.1;refine q101 (fun e=>q127 e) hN h0 hb hlen ?_ ?_
 .intro i hi m next hm hmb hn
  have hse:=hs.2 _ (aR hi);simp only[q127] at hmb;dsimp only[nth];refine rg (by omega) ?_;refine rd hi ?_;refine rb (q106 hN _ (hse.1) _ (by (try simp (disch:=omega) only [wrapI]); omega) (by (try simp (disch:=omega) only [wrapI]); omega)) ?_;refine rd hi ?_;refine rb (q106 hN _ (hse.2.1) _ (by (try simp (disch:=omega) only [wrapI]); omega) (by (try simp (disch:=omega) only [wrapI]); omega)) ?_;refine rd hi ?_;refine rb (q106 hN _ (hse.2.2) _ (by (try simp (disch:=omega) only [wrapI]); omega) (by (try simp (disch:=omega) only [wrapI]); omega)) ?_;refine va hn ?_
  (try simp (disch:=omega) only [wrapI])
  simp only[q127];omega
 .intro m next
  dsimp only[nth];exact Ret.eq (re (by omega) (ra rfl))
theorem q884{N:Nat}(hN:1000000000000<=N)(x:List DArc)(hs:x.length<4000000/\∀ e0∈x,(e0.2.2.2.2.1.length<4000000/\∀ e1∈e0.2.2.2.2.1,(e1.1.length<4000000)/\(e1.2.1.length<4000000)/\(e1.2.2.1.length<4000000))/\(e0.2.2.2.2.2.1.length<4000000/\∀ e1∈e0.2.2.2.2.2.1,(e1.1.length<4000000)/\(e1.2.1.length<4000000)/\(e1.2.2.1.length<4000000)))(k:Int)(h0:0<=k)(hb:k+(q320 x:Nat)<=100000000000):F_191 N x k=some (k+(q320 x:Nat)):=by
 unfold F_191;have hlen:x.length<4000000:=hs.1;refine q101 (fun e=>q218 e) hN h0 hb hlen ?_ ?_
 .intro i hi m next hm hmb hn
  have hse:=hs.2 _ (aR hi);simp only[q218] at hmb;dsimp only[nth];refine rg (by omega) ?_;refine rd hi ?_;refine rd hi ?_;refine rd hi ?_;refine rd hi ?_;refine rd hi ?_;refine rb (q594 hN _ (hse.1) _ (by (try simp (disch:=omega) only [wrapI]); omega) (by (try simp (disch:=omega) only [wrapI]); omega)) ?_;refine rd hi ?_;refine rb (q594 hN _ (hse.2) _ (by (try simp (disch:=omega) only [wrapI]); omega) (by (try simp (disch:=omega) only [wrapI]); omega)) ?_;refine va hn ?_
  (try simp (disch:=omega) only [wrapI])
  simp only[q218];omega
 .intro m next
  dsimp only[nth];exact Ret.eq (re (by omega) (ra rfl))
theorem q797{N:Nat}(hN:1000000000000<=N)(x:List DCell)(hs:x.length<4000000/\∀ e0∈x,(e0.1.size<4000000)/\(e0.2.2.1.length<4000000/\∀ e1∈e0.2.2.1,(e1.1.size<4000000))/\(e0.2.2.2.1.length<4000000/\∀ e1∈e0.2.2.2.1,(e1.2.2.2.2.1.length<4000000/\∀ e2∈e1.2.2.2.2.1,(e2.1.length<4000000)/\(e2.2.1.length<4000000)/\(e2.2.2.1.length<4000000))/\(e1.2.2.2.2.2.1.length<4000000/\∀ e2∈e1.2.2.2.2.2.1,(e2.1.length<4000000)/\(e2.2.1.length<4000000)/\(e2.2.2.1.length<4000000)))/\(e0.2.2.2.2.1.length<4000000))(k:Int)(h0:0<=k)(hb:k+(q175 x:Nat)<=100000000000):F_192 N x k=some (k+(q175 x:Nat)):=by
 unfold F_192;have hlen:x.length<4000000:=hs.1;refine q101 (fun e=>q161 e) hN h0 hb hlen ?_ ?_
 .intro i hi m next hm hmb hn
  have hse:=hs.2 _ (aR hi);simp only[q161] at hmb;dsimp only[nth];refine rg (by omega) ?_;refine ve hN (by (try simp (disch:=omega) only [wrapI]); omega) fun _=>?_;refine rd hi ?_;refine rd hi ?_;refine rd hi ?_;refine rb (q853 hN _ (hse.2.1) _ (by (try simp (disch:=omega) only [wrapI]); omega) (by (try simp (disch:=omega) only [wrapI]); omega)) ?_;refine rd hi ?_;refine rb (q884 hN _ (hse.2.2.1) _ (by (try simp (disch:=omega) only [wrapI]); omega) (by (try simp (disch:=omega) only [wrapI]); omega)) ?_;refine rd hi ?_;refine rb (q106 hN _ (hse.2.2.2) _ (by (try simp (disch:=omega) only [wrapI]); omega) (by (try simp (disch:=omega) only [wrapI]); omega)) ?_;refine rd hi ?_;refine rd hi ?_;refine va hn ?_
  (try simp (disch:=omega) only [wrapI])
  simp only[q161];omega
 .intro m next
  dsimp only[nth];exact Ret.eq (re (by omega) (ra rfl))
theorem q725{N:Nat}(hN:1000000000000<=N)(x:DLibrary)(hs:(x.1.length<4000000/\∀ e0∈x.1,(e0.1.size<4000000)/\(e0.2.2.1.length<4000000/\∀ e1∈e0.2.2.1,(e1.1.size<4000000))/\(e0.2.2.2.1.length<4000000/\∀ e1∈e0.2.2.2.1,(e1.2.2.2.2.1.length<4000000/\∀ e2∈e1.2.2.2.2.1,(e2.1.length<4000000)/\(e2.2.1.length<4000000)/\(e2.2.2.1.length<4000000))/\(e1.2.2.2.2.2.1.length<4000000/\∀ e2∈e1.2.2.2.2.2.1,(e2.1.length<4000000)/\(e2.2.1.length<4000000)/\(e2.2.2.1.length<4000000)))/\(e0.2.2.2.2.1.length<4000000)))(k:Int)(h0:0<=k)(hb:k+(q119 x:Nat)<=100000000000):F_193 N x k=some (k+(q119 x:Nat)):=by unfold F_193;unfold q119 at hb |-;refine Ret.eq ?_;refine rb (q797 hN _ (hs) _ (by omega) (by omega)) ?_;exact ra (by omega)
theorem q600{N:Nat}(hN:1000000000000<=N)(x:List DInstance)(hs:x.length<4000000/\∀ e0∈x,(e0.1.size<4000000)/\(e0.2.2.1.length<4000000))(k:Int)(h0:0<=k)(hb:k+(q82 x:Nat)<=100000000000):F_194 N x k=some (k+(q82 x:Nat)):=by
 unfold F_194;have hlen:x.length<4000000:=hs.1;refine q101 (fun e=>q61 e) hN h0 hb hlen ?_ ?_
 .intro i hi m next hm hmb hn
  have hse:=hs.2 _ (aR hi);simp only[q61] at hmb;dsimp only[nth];refine rg (by omega) ?_;refine ve hN (by (try simp (disch:=omega) only [wrapI]); omega) fun _=>?_;refine rd hi ?_;refine rd hi ?_;refine rd hi ?_;refine rb (q106 hN _ (hse.2) _ (by (try simp (disch:=omega) only [wrapI]); omega) (by (try simp (disch:=omega) only [wrapI]); omega)) ?_;refine va hn ?_
  (try simp (disch:=omega) only [wrapI])
  simp only[q61];omega
 .intro m next
  dsimp only[nth];exact Ret.eq (re (by omega) (ra rfl))
theorem q698{N:Nat}(hN:1000000000000<=N)(x:List (ByteArray))(hs:x.length<4000000/\∀ e0∈x,e0.size<4000000)(k:Int)(h0:0<=k)(hb:k+(q117 x:Nat)<=100000000000):F_195 N x k=some (k+(q117 x:Nat)):=by
 unfold F_195;have hlen:x.length<4000000:=hs.1;refine q101 (fun e=>1) hN h0 hb hlen ?_ ?_
 .intro i hi m next hm hmb hn
  (try dsimp only at hmb)
  dsimp only[nth];refine rg (by omega) ?_;refine ve hN (by (try simp (disch:=omega) only [wrapI]); omega) fun _=>?_;refine rd hi ?_;refine va hn ?_
  (try simp (disch:=omega) only [wrapI])
  omega
 .intro m next
  dsimp only[nth];exact Ret.eq (re (by omega) (ra rfl))
theorem q810{N:Nat}(hN:1000000000000<=N)(x:List DPort)(hs:x.length<4000000/\∀ e0∈x,(e0.1.size<4000000))(k:Int)(h0:0<=k)(hb:k+(q182 x:Nat)<=100000000000):F_196 N x k=some (k+(q182 x:Nat)):=by
 unfold F_196;have hlen:x.length<4000000:=hs.1;refine q101 (fun e=>q157 e) hN h0 hb hlen ?_ ?_
 .intro i hi m next hm hmb hn
  have hse:=hs.2 _ (aR hi);simp only[q157] at hmb;dsimp only[nth];refine rg (by omega) ?_;refine ve hN (by (try simp (disch:=omega) only [wrapI]); omega) fun _=>?_;refine rd hi ?_;refine rd hi ?_;refine rd hi ?_;refine va hn ?_
  (try simp (disch:=omega) only [wrapI])
  simp only[q157];omega
 .intro m next
  dsimp only[nth];exact Ret.eq (re (by omega) (ra rfl))
theorem q789{N:Nat}(hN:1000000000000<=N)(x:DDesign)(hs:(x.1.length<4000000/\∀ e0∈x.1,(e0.1.size<4000000)/\(e0.2.2.1.length<4000000))/\(x.2.1.length<4000000/\∀ e0∈x.2.1,e0.size<4000000)/\(x.2.2.1.length<4000000/\∀ e0∈x.2.2.1,(e0.1.size<4000000)))(k:Int)(h0:0<=k)(hb:k+(q136 x:Nat)<=100000000000):F_197 N x k=some (k+(q136 x:Nat)):=by unfold F_197;unfold q136 at hb |-;refine Ret.eq ?_;refine rb (q600 hN _ (hs.1) _ (by omega) (by omega)) ?_;refine rb (q698 hN _ (hs.2.1) _ (by omega) (by omega)) ?_;refine rb (q810 hN _ (hs.2.2) _ (by omega) (by omega)) ?_;exact ra (by omega)
theorem q803{N:Nat}(hN:1000000000000<=N)(x:List DWire)(hs:x.length<4000000/\∀ e0∈x,(e0.1.length<4000000)/\(e0.2.1.length<4000000)/\(e0.2.2.1.length<4000000)/\(e0.2.2.2.1.length<4000000))(k:Int)(h0:0<=k)(hb:k+(q178 x:Nat)<=100000000000):F_198 N x k=some (k+(q178 x:Nat)):=by
 unfold F_198;have hlen:x.length<4000000:=hs.1;refine q101 (fun e=>q163 e) hN h0 hb hlen ?_ ?_
 .intro i hi m next hm hmb hn
  have hse:=hs.2 _ (aR hi);simp only[q163] at hmb;dsimp only[nth];refine rg (by omega) ?_;refine rd hi ?_;refine rb (q106 hN _ (hse.1) _ (by (try simp (disch:=omega) only [wrapI]); omega) (by (try simp (disch:=omega) only [wrapI]); omega)) ?_;refine rd hi ?_;refine rb (q106 hN _ (hse.2.1) _ (by (try simp (disch:=omega) only [wrapI]); omega) (by (try simp (disch:=omega) only [wrapI]); omega)) ?_;refine rd hi ?_;refine rb (q106 hN _ (hse.2.2.1) _ (by (try simp (disch:=omega) only [wrapI]); omega) (by (try simp (disch:=omega) only [wrapI]); omega)) ?_;refine rd hi ?_;refine rb (q106 hN _ (hse.2.2.2) _ (by (try simp (disch:=omega) only [wrapI]); omega) (by (try simp (disch:=omega) only [wrapI]); omega)) ?_;refine va hn ?_
  (try simp (disch:=omega) only [wrapI])
  simp only[q163];omega
 .intro m next
  dsimp only[nth];exact Ret.eq (re (by omega) (ra rfl))
theorem q835{N:Nat}(hN:1000000000000<=N)(x:DBlock)(hs:((x.1.1.length<4000000/\∀ e0∈x.1.1,(e0.1.size<4000000)/\(e0.2.2.1.length<4000000/\∀ e1∈e0.2.2.1,(e1.1.size<4000000))/\(e0.2.2.2.1.length<4000000/\∀ e1∈e0.2.2.2.1,(e1.2.2.2.2.1.length<4000000/\∀ e2∈e1.2.2.2.2.1,(e2.1.length<4000000)/\(e2.2.1.length<4000000)/\(e2.2.2.1.length<4000000))/\(e1.2.2.2.2.2.1.length<4000000/\∀ e2∈e1.2.2.2.2.2.1,(e2.1.length<4000000)/\(e2.2.1.length<4000000)/\(e2.2.2.1.length<4000000)))/\(e0.2.2.2.2.1.length<4000000)))/\((x.2.1.1.length<4000000/\∀ e0∈x.2.1.1,(e0.1.size<4000000)/\(e0.2.2.1.length<4000000))/\(x.2.1.2.1.length<4000000/\∀ e0∈x.2.1.2.1,e0.size<4000000)/\(x.2.1.2.2.1.length<4000000/\∀ e0∈x.2.1.2.2.1,(e0.1.size<4000000)))/\(x.2.2.1.length<4000000/\∀ e0∈x.2.2.1,(e0.1.length<4000000)/\(e0.2.1.length<4000000)/\(e0.2.2.1.length<4000000)/\(e0.2.2.2.1.length<4000000)))(k:Int)(h0:0<=k)(hb:k+(q231 x:Nat)<=100000000000):F_199 N x k=some (k+(q231 x:Nat)):=by unfold F_199;unfold q231 at hb |-;refine Ret.eq ?_;refine rb (q725 hN _ (hs.1) _ (by omega) (by omega)) ?_;refine rb (q789 hN _ (hs.2.1) _ (by omega) (by omega)) ?_;refine rb (q803 hN _ (hs.2.2) _ (by omega) (by omega)) ?_;exact ra (by omega)
end Go.Proofs.YtefbaonpbemejaaGreatDoor
