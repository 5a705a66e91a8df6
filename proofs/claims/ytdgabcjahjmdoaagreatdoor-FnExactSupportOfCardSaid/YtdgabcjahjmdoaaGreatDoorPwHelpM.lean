/- The marking functions: how much they mark. Printed by my lawgen.py. No program in sight. -/
import Derived.Test.YtdgabcjahjmdoaaGreatDoorPgV
namespace Go.Proofs.YtdgabcjahjmdoaaGreatDoor
set_option linter.unusedSimpArgs false
set_option linter.unusedVariables false
def q196(x:DPin):Nat:=1+1+1+1
def q278(x:List DPin):Nat:=(x.map fun e=>q196 e).sum
def q36(x:List (Int)):Nat:=(x.map fun e=>1).sum
def q111(x:DTable):Nat:=q36 x.1+q36 x.2.1+q36 x.2.2.1
def q125(x:List DTable):Nat:=(x.map fun e=>q111 e).sum
def q198(x:DArc):Nat:=1+1+1+1+q125 x.2.2.2.2.1+q125 x.2.2.2.2.2.1
def q288(x:List DArc):Nat:=(x.map fun e=>q198 e).sum
def q139(x:DCell):Nat:=1+1+q278 x.2.2.1+q288 x.2.2.2.1+q36 x.2.2.2.2.1+1+1
def q161(x:List DCell):Nat:=(x.map fun e=>q139 e).sum
def q130(x:DLibrary):Nat:=q161 x.1
def q102(x:DLibrary):Nat:=q161 x.1
theorem q627(x:DLibrary):q102 x<=q130 x:=by unfold q102 q130;omega
def q53(x:DInstance):Nat:=1+1+q36 x.2.2.1
def q77(x:List DInstance):Nat:=(x.map fun e=>q53 e).sum
def q101(x:List (ByteArray)):Nat:=(x.map fun e=>1).sum
def q140(x:DPort):Nat:=1+1+1
def q158(x:List DPort):Nat:=(x.map fun e=>q140 e).sum
def q166(x:DDesign):Nat:=q77 x.1+q101 x.2.1+q158 x.2.2.1
def q120(x:DDesign):Nat:=q77 x.1+q101 x.2.1+q158 x.2.2.1
theorem q679(x:DDesign):q120 x<=q166 x:=by unfold q120 q166;omega
def q147(x:DWire):Nat:=q36 x.1+q36 x.2.1+q36 x.2.2.1+q36 x.2.2.2.1
def q167(x:List DWire):Nat:=(x.map fun e=>q147 e).sum
def q282(x:DBlock):Nat:=q130 x.1+q166 x.2.1+q167 x.2.2.1
def q208(x:DBlock):Nat:=q102 x.1+q120 x.2.1+q167 x.2.2.1
theorem q721(x:DBlock):q208 x<=q282 x:=by have h0:=q627 x.1;have h1:=q679 x.2.1;unfold q208 q282;omega
theorem sc_Pin{N:Nat}(hN:HN N)(x:DPin)(room:Int)(h:0<=room/\room<=1048576)(hf:(TPin:Ty).fits x)(u:Unit):Ret (F_0 N (x,room,u)) (fun r=>r.1<=room/\(0<=r.1->((x.1.size<4000000))/\(q196 x:Int)<=4+32 * (room - r.1))):=by
 have hm:=q31;unfold F_0;dsimp only;have hf0:=hf.1;rw[wrapI (n:=room - (x.1.size:Int)) (by omega) (by omega)];refine rg ?_ ?_ <;> intro g0
 .exact ra ⟨by show (-1:Int)<=room; omega,fun h=>absurd h (by decide)⟩
 exact ra ⟨by show (room - (x.1.size:Int))<=room; omega,fun _=>⟨(by omega),by simp only[q196]; show _<=4+32 * (room - (room - (x.1.size:Int))); omega⟩⟩
theorem q792{N:Nat}(hN:HN N)(x:List DPin)(room:Int)(h:0<=room/\room<=1048576)(hf:((.slice TPin):Ty).fits x)(u:Unit):Ret (F_1 N (x,room,u)) (fun r=>r.1<=room/\(0<=r.1->(x.length<4000000/\∀ e0∈x,(e0.1.size<4000000))/\(q278 x:Int)<=32 * (room - r.1))):=by
 have hm:=q31;unfold F_1;have hl:=hf.1;dsimp only;rw[wrapI (n:=room - (x.length:Int)) (by omega) (by omega)];refine rg ?_ ?_ <;> intro h1
 .exact ra ⟨by show (-1:Int)<=room; omega,fun h=>absurd h (by decide)⟩
 refine ry 0 x.length (fun i r _=>0<=r/\r<=room - (x.length:Int)/\(∀ j,j<i->∀ h:j<x.length,(x[j].1.size<4000000))/\((((x.take i).map fun e=>q196 e).sum:Nat):Int)<=32 * (i:Int)+32 * (room - (x.length:Int) - r)) (by omega) (by omega) (by omega) ⟨by omega,by omega,q18,by simp⟩ ?_ ?_
 .rintro i r t next _ hi ⟨hr0,hr,hI,hS⟩ hn
  have hfi:=hf.2 _ (aR hi);have hts:=q42 (fun e=>q196 e) hi;dsimp only at hts |-;refine rf ?_ ?_
  .omega
  refine rc hi (Ret.bind (sc_Pin hN x[i] r ⟨hr0,by omega⟩ hfi ()) ?_);rintro ⟨r2,v⟩ ⟨h2,h3⟩;dsimp only at h2 h3 |-;refine rg ?_ ?_ <;> intro h4
  .exact ra ⟨by show (-1:Int)<=room; omega,fun h=>absurd h (by decide)⟩
  .obtain ⟨h5,h6⟩:=h3 (by omega);exact hn _ _ ⟨by omega,by omega,q15 hI fun _=>h5,by rw[hts]; omega⟩
 .rintro r t next ⟨hr0,hr,hI,hS⟩
  rw[aP] at hS;dsimp only;refine rd ?_ (ra ⟨by show r<=room; omega,fun _=>⟨⟨by omega,q13.2 fun j hj=>hI j hj hj⟩,?_⟩⟩)
  .omega
  .unfold q278; show _<=32 * (room - r); omega
theorem q93{N:Nat}(hN:HN N)(x:List (Int))(room:Int)(h:0<=room/\room<=1048576)(hf:((.slice (.int .i64)):Ty).fits x)(u:Unit):Ret (F_2 N (x,room,u)) (fun r=>r.1<=room/\(0<=r.1->(x.length<4000000)/\(q36 x:Int)<=32 * (room - r.1))):=by
 have hm:=q31;unfold F_2;have hl:=hf.1;dsimp only;rw[wrapI (n:=room - (x.length:Int)) (by omega) (by omega)];refine rg ?_ ?_ <;> intro h1
 .exact ra ⟨by show (-1:Int)<=room; omega,fun h=>absurd h (by decide)⟩
 .have hc:q36 x<=32 * x.length:=by unfold q36;refine q618 (fun e _=>?_);omega
  exact ra ⟨by show room - (x.length:Int)<=room; omega,fun _=>⟨by omega,by show _<=32 * (room - (room - (x.length:Int))); omega⟩⟩
theorem q720{N:Nat}(hN:HN N)(x:DTable)(room:Int)(h:0<=room/\room<=1048576)(hf:(TTable:Ty).fits x)(u:Unit):Ret (F_3 N (x,room,u)) (fun r=>r.1<=room/\(0<=r.1->((x.1.length<4000000)/\(x.2.1.length<4000000)/\(x.2.2.1.length<4000000))/\(q111 x:Int)<=0+32 * (room - r.1))):=by
 have hm:=q31;unfold F_3;dsimp only;have hf0:=hf.1;refine Ret.bind (q93 hN x.1 room ⟨by omega,by omega⟩ hf0 ()) ?_;rintro ⟨r0,v0⟩ ⟨a0,b0⟩;dsimp only at a0 b0 |-;refine rg ?_ ?_ <;> intro g0
 .exact ra ⟨by show (-1:Int)<=room; omega,fun h=>absurd h (by decide)⟩
 have hf1:=hf.2.1;refine Ret.bind (q93 hN x.2.1 r0 ⟨by omega,by omega⟩ hf1 ()) ?_;rintro ⟨r1,v1⟩ ⟨a1,b1⟩;dsimp only at a1 b1 |-;refine rg ?_ ?_ <;> intro g1
 .exact ra ⟨by show (-1:Int)<=room; omega,fun h=>absurd h (by decide)⟩
 have hf2:=hf.2.2.1;refine Ret.bind (q93 hN x.2.2.1 r1 ⟨by omega,by omega⟩ hf2 ()) ?_;rintro ⟨r2,v2⟩ ⟨a2,b2⟩;dsimp only at a2 b2 |-;refine rg ?_ ?_ <;> intro g2
 .exact ra ⟨by show (-1:Int)<=room; omega,fun h=>absurd h (by decide)⟩
 have c0:=(b0 (by omega)).2;have c1:=(b1 (by omega)).2;have c2:=(b2 (by omega)).2;exact ra ⟨by show r2<=room; omega,fun _=>⟨⟨(b0 (by omega)).1,(b1 (by omega)).1,(b2 (by omega)).1⟩,by simp only[q111]; show _<=0+32 * (room - r2); omega⟩⟩
theorem q494{N:Nat}(hN:HN N)(x:List DTable)(room:Int)(h:0<=room/\room<=1048576)(hf:((.slice TTable):Ty).fits x)(u:Unit):Ret (F_4 N (x,room,u)) (fun r=>r.1<=room/\(0<=r.1->(x.length<4000000/\∀ e0∈x,(e0.1.length<4000000)/\(e0.2.1.length<4000000)/\(e0.2.2.1.length<4000000))/\(q125 x:Int)<=32 * (room - r.1))):=by
 have hm:=q31;unfold F_4;have hl:=hf.1;dsimp only;rw[wrapI (n:=room - (x.length:Int)) (by omega) (by omega)];refine rg ?_ ?_ <;> intro h1
 .exact ra ⟨by show (-1:Int)<=room; omega,fun h=>absurd h (by decide)⟩
 refine ry 0 x.length (fun i r _=>0<=r/\r<=room - (x.length:Int)/\(∀ j,j<i->∀ h:j<x.length,(x[j].1.length<4000000)/\(x[j].2.1.length<4000000)/\(x[j].2.2.1.length<4000000))/\((((x.take i).map fun e=>q111 e).sum:Nat):Int)<=32 * (i:Int)+32 * (room - (x.length:Int) - r)) (by omega) (by omega) (by omega) ⟨by omega,by omega,q18,by simp⟩ ?_ ?_
 .rintro i r t next _ hi ⟨hr0,hr,hI,hS⟩ hn
  have hfi:=hf.2 _ (aR hi);have hts:=q42 (fun e=>q111 e) hi;dsimp only at hts |-;refine rf ?_ ?_
  .omega
  refine rc hi (Ret.bind (q720 hN x[i] r ⟨hr0,by omega⟩ hfi ()) ?_);rintro ⟨r2,v⟩ ⟨h2,h3⟩;dsimp only at h2 h3 |-;refine rg ?_ ?_ <;> intro h4
  .exact ra ⟨by show (-1:Int)<=room; omega,fun h=>absurd h (by decide)⟩
  .obtain ⟨h5,h6⟩:=h3 (by omega);exact hn _ _ ⟨by omega,by omega,q15 hI fun _=>h5,by rw[hts]; omega⟩
 .rintro r t next ⟨hr0,hr,hI,hS⟩
  rw[aP] at hS;dsimp only;refine rd ?_ (ra ⟨by show r<=room; omega,fun _=>⟨⟨by omega,q13.2 fun j hj=>hI j hj hj⟩,?_⟩⟩)
  .omega
  .unfold q125; show _<=32 * (room - r); omega
theorem sc_Arc{N:Nat}(hN:HN N)(x:DArc)(room:Int)(h:0<=room/\room<=1048576)(hf:(TArc:Ty).fits x)(u:Unit):Ret (F_5 N (x,room,u)) (fun r=>r.1<=room/\(0<=r.1->((x.2.2.2.2.1.length<4000000/\∀ e0∈x.2.2.2.2.1,(e0.1.length<4000000)/\(e0.2.1.length<4000000)/\(e0.2.2.1.length<4000000))/\(x.2.2.2.2.2.1.length<4000000/\∀ e0∈x.2.2.2.2.2.1,(e0.1.length<4000000)/\(e0.2.1.length<4000000)/\(e0.2.2.1.length<4000000)))/\(q198 x:Int)<=4+32 * (room - r.1))):=by
 have hm:=q31;unfold F_5;dsimp only;have hf0:=hf.2.2.2.2.1;refine Ret.bind (q494 hN x.2.2.2.2.1 room ⟨by omega,by omega⟩ hf0 ()) ?_;rintro ⟨r0,v0⟩ ⟨a0,b0⟩;dsimp only at a0 b0 |-;refine rg ?_ ?_ <;> intro g0
 .exact ra ⟨by show (-1:Int)<=room; omega,fun h=>absurd h (by decide)⟩
 have hf1:=hf.2.2.2.2.2.1;refine Ret.bind (q494 hN x.2.2.2.2.2.1 r0 ⟨by omega,by omega⟩ hf1 ()) ?_;rintro ⟨r1,v1⟩ ⟨a1,b1⟩;dsimp only at a1 b1 |-;refine rg ?_ ?_ <;> intro g1
 .exact ra ⟨by show (-1:Int)<=room; omega,fun h=>absurd h (by decide)⟩
 have c0:=(b0 (by omega)).2;have c1:=(b1 (by omega)).2;exact ra ⟨by show r1<=room; omega,fun _=>⟨⟨(b0 (by omega)).1,(b1 (by omega)).1⟩,by simp only[q198]; show _<=4+32 * (room - r1); omega⟩⟩
theorem q787{N:Nat}(hN:HN N)(x:List DArc)(room:Int)(h:0<=room/\room<=1048576)(hf:((.slice TArc):Ty).fits x)(u:Unit):Ret (F_6 N (x,room,u)) (fun r=>r.1<=room/\(0<=r.1->(x.length<4000000/\∀ e0∈x,(e0.2.2.2.2.1.length<4000000/\∀ e1∈e0.2.2.2.2.1,(e1.1.length<4000000)/\(e1.2.1.length<4000000)/\(e1.2.2.1.length<4000000))/\(e0.2.2.2.2.2.1.length<4000000/\∀ e1∈e0.2.2.2.2.2.1,(e1.1.length<4000000)/\(e1.2.1.length<4000000)/\(e1.2.2.1.length<4000000)))/\(q288 x:Int)<=32 * (room - r.1))):=by
 have hm:=q31;unfold F_6;have hl:=hf.1;dsimp only;rw[wrapI (n:=room - (x.length:Int)) (by omega) (by omega)];refine rg ?_ ?_ <;> intro h1
 .exact ra ⟨by show (-1:Int)<=room; omega,fun h=>absurd h (by decide)⟩
 refine ry 0 x.length (fun i r _=>0<=r/\r<=room - (x.length:Int)/\(∀ j,j<i->∀ h:j<x.length,(x[j].2.2.2.2.1.length<4000000/\∀ e0∈x[j].2.2.2.2.1,(e0.1.length<4000000)/\(e0.2.1.length<4000000)/\(e0.2.2.1.length<4000000))/\(x[j].2.2.2.2.2.1.length<4000000/\∀ e0∈x[j].2.2.2.2.2.1,(e0.1.length<4000000)/\(e0.2.1.length<4000000)/\(e0.2.2.1.length<4000000)))/\((((x.take i).map fun e=>q198 e).sum:Nat):Int)<=32 * (i:Int)+32 * (room - (x.length:Int) - r)) (by omega) (by omega) (by omega) ⟨by omega,by omega,q18,by simp⟩ ?_ ?_
 .rintro i r t next _ hi ⟨hr0,hr,hI,hS⟩ hn
  have hfi:=hf.2 _ (aR hi);have hts:=q42 (fun e=>q198 e) hi;dsimp only at hts |-;refine rf ?_ ?_
  .omega
  refine rc hi (Ret.bind (sc_Arc hN x[i] r ⟨hr0,by omega⟩ hfi ()) ?_);rintro ⟨r2,v⟩ ⟨h2,h3⟩;dsimp only at h2 h3 |-;refine rg ?_ ?_ <;> intro h4
  .exact ra ⟨by show (-1:Int)<=room; omega,fun h=>absurd h (by decide)⟩
  .obtain ⟨h5,h6⟩:=h3 (by omega);exact hn _ _ ⟨by omega,by omega,q15 hI fun _=>h5,by rw[hts]; omega⟩
 .rintro r t next ⟨hr0,hr,hI,hS⟩
  rw[aP] at hS;dsimp only;refine rd ?_ (ra ⟨by show r<=room; omega,fun _=>⟨⟨by omega,q13.2 fun j hj=>hI j hj hj⟩,?_⟩⟩)
  .omega
  .unfold q288; show _<=32 * (room - r); omega
theorem q793{N:Nat}(hN:HN N)(x:DCell)(room:Int)(h:0<=room/\room<=1048576)(hf:(TCell:Ty).fits x)(u:Unit):Ret (F_7 N (x,room,u)) (fun r=>r.1<=room/\(0<=r.1->((x.1.size<4000000)/\(x.2.2.1.length<4000000/\∀ e0∈x.2.2.1,(e0.1.size<4000000))/\(x.2.2.2.1.length<4000000/\∀ e0∈x.2.2.2.1,(e0.2.2.2.2.1.length<4000000/\∀ e1∈e0.2.2.2.2.1,(e1.1.length<4000000)/\(e1.2.1.length<4000000)/\(e1.2.2.1.length<4000000))/\(e0.2.2.2.2.2.1.length<4000000/\∀ e1∈e0.2.2.2.2.2.1,(e1.1.length<4000000)/\(e1.2.1.length<4000000)/\(e1.2.2.1.length<4000000)))/\(x.2.2.2.2.1.length<4000000))/\(q139 x:Int)<=4+32 * (room - r.1))):=by
 have hm:=q31;unfold F_7;dsimp only;have hf0:=hf.1;rw[wrapI (n:=room - (x.1.size:Int)) (by omega) (by omega)];refine rg ?_ ?_ <;> intro g0
 .exact ra ⟨by show (-1:Int)<=room; omega,fun h=>absurd h (by decide)⟩
 have hf1:=hf.2.2.1;refine Ret.bind (q792 hN x.2.2.1 (room - (x.1.size:Int)) ⟨by omega,by omega⟩ hf1 ()) ?_;rintro ⟨r1,v1⟩ ⟨a1,b1⟩;dsimp only at a1 b1 |-;refine rg ?_ ?_ <;> intro g1
 .exact ra ⟨by show (-1:Int)<=room; omega,fun h=>absurd h (by decide)⟩
 have hf2:=hf.2.2.2.1;refine Ret.bind (q787 hN x.2.2.2.1 r1 ⟨by omega,by omega⟩ hf2 ()) ?_;rintro ⟨r2,v2⟩ ⟨a2,b2⟩;dsimp only at a2 b2 |-;refine rg ?_ ?_ <;> intro g2
 .exact ra ⟨by show (-1:Int)<=room; omega,fun h=>absurd h (by decide)⟩
 have hf3:=hf.2.2.2.2.1;refine Ret.bind (q93 hN x.2.2.2.2.1 r2 ⟨by omega,by omega⟩ hf3 ()) ?_;rintro ⟨r3,v3⟩ ⟨a3,b3⟩;dsimp only at a3 b3 |-;refine rg ?_ ?_ <;> intro g3
 .exact ra ⟨by show (-1:Int)<=room; omega,fun h=>absurd h (by decide)⟩
 have c1:=(b1 (by omega)).2;have c2:=(b2 (by omega)).2;have c3:=(b3 (by omega)).2;exact ra ⟨by show r3<=room; omega,fun _=>⟨⟨(by omega),(b1 (by omega)).1,(b2 (by omega)).1,(b3 (by omega)).1⟩,by simp only[q139]; show _<=4+32 * (room - r3); omega⟩⟩
theorem q738{N:Nat}(hN:HN N)(x:List DCell)(room:Int)(h:0<=room/\room<=1048576)(hf:((.slice TCell):Ty).fits x)(u:Unit):Ret (F_8 N (x,room,u)) (fun r=>r.1<=room/\(0<=r.1->(x.length<4000000/\∀ e0∈x,(e0.1.size<4000000)/\(e0.2.2.1.length<4000000/\∀ e1∈e0.2.2.1,(e1.1.size<4000000))/\(e0.2.2.2.1.length<4000000/\∀ e1∈e0.2.2.2.1,(e1.2.2.2.2.1.length<4000000/\∀ e2∈e1.2.2.2.2.1,(e2.1.length<4000000)/\(e2.2.1.length<4000000)/\(e2.2.2.1.length<4000000))/\(e1.2.2.2.2.2.1.length<4000000/\∀ e2∈e1.2.2.2.2.2.1,(e2.1.length<4000000)/\(e2.2.1.length<4000000)/\(e2.2.2.1.length<4000000)))/\(e0.2.2.2.2.1.length<4000000))/\(q161 x:Int)<=32 * (room - r.1))):=by
 have hm:=q31;unfold F_8;have hl:=hf.1;dsimp only;rw[wrapI (n:=room - (x.length:Int)) (by omega) (by omega)];refine rg ?_ ?_ <;> intro h1
 .exact ra ⟨by show (-1:Int)<=room; omega,fun h=>absurd h (by decide)⟩
 refine ry 0 x.length (fun i r _=>0<=r/\r<=room - (x.length:Int)/\(∀ j,j<i->∀ h:j<x.length,(x[j].1.size<4000000)/\(x[j].2.2.1.length<4000000/\∀ e0∈x[j].2.2.1,(e0.1.size<4000000))/\(x[j].2.2.2.1.length<4000000/\∀ e0∈x[j].2.2.2.1,(e0.2.2.2.2.1.length<4000000/\∀ e1∈e0.2.2.2.2.1,(e1.1.length<4000000)/\(e1.2.1.length<4000000)/\(e1.2.2.1.length<4000000))/\(e0.2.2.2.2.2.1.length<4000000/\∀ e1∈e0.2.2.2.2.2.1,(e1.1.length<4000000)/\(e1.2.1.length<4000000)/\(e1.2.2.1.length<4000000)))/\(x[j].2.2.2.2.1.length<4000000))/\((((x.take i).map fun e=>q139 e).sum:Nat):Int)<=32 * (i:Int)+32 * (room - (x.length:Int) - r)) (by omega) (by omega) (by omega) ⟨by omega,by omega,q18,by simp⟩ ?_ ?_
 .rintro i r t next _ hi ⟨hr0,hr,hI,hS⟩ hn
  have hfi:=hf.2 _ (aR hi);have hts:=q42 (fun e=>q139 e) hi;dsimp only at hts |-;refine rf ?_ ?_
  .omega
  refine rc hi (Ret.bind (q793 hN x[i] r ⟨hr0,by omega⟩ hfi ()) ?_);rintro ⟨r2,v⟩ ⟨h2,h3⟩;dsimp only at h2 h3 |-;refine rg ?_ ?_ <;> intro h4
  .exact ra ⟨by show (-1:Int)<=room; omega,fun h=>absurd h (by decide)⟩
  .obtain ⟨h5,h6⟩:=h3 (by omega);exact hn _ _ ⟨by omega,by omega,q15 hI fun _=>h5,by rw[hts]; omega⟩
 .rintro r t next ⟨hr0,hr,hI,hS⟩
  rw[aP] at hS;dsimp only;refine rd ?_ (ra ⟨by show r<=room; omega,fun _=>⟨⟨by omega,q13.2 fun j hj=>hI j hj hj⟩,?_⟩⟩)
  .omega
  .unfold q161; show _<=32 * (room - r); omega
theorem q640{N:Nat}(hN:HN N)(x:DLibrary)(room:Int)(h:0<=room/\room<=1048576)(hf:(TLibrary:Ty).fits x)(u:Unit):Ret (F_9 N (x,room,u)) (fun r=>r.1<=room/\(0<=r.1->((x.1.length<4000000/\∀ e0∈x.1,(e0.1.size<4000000)/\(e0.2.2.1.length<4000000/\∀ e1∈e0.2.2.1,(e1.1.size<4000000))/\(e0.2.2.2.1.length<4000000/\∀ e1∈e0.2.2.2.1,(e1.2.2.2.2.1.length<4000000/\∀ e2∈e1.2.2.2.2.1,(e2.1.length<4000000)/\(e2.2.1.length<4000000)/\(e2.2.2.1.length<4000000))/\(e1.2.2.2.2.2.1.length<4000000/\∀ e2∈e1.2.2.2.2.2.1,(e2.1.length<4000000)/\(e2.2.1.length<4000000)/\(e2.2.2.1.length<4000000)))/\(e0.2.2.2.2.1.length<4000000)))/\(q130 x:Int)<=0+32 * (room - r.1))):=by
 have hm:=q31;unfold F_9;dsimp only;have hf0:=hf.1;refine Ret.bind (q738 hN x.1 room ⟨by omega,by omega⟩ hf0 ()) ?_;rintro ⟨r0,v0⟩ ⟨a0,b0⟩;dsimp only at a0 b0 |-;refine rg ?_ ?_ <;> intro g0
 .exact ra ⟨by show (-1:Int)<=room; omega,fun h=>absurd h (by decide)⟩
 have c0:=(b0 (by omega)).2;exact ra ⟨by show r0<=room; omega,fun _=>⟨(b0 (by omega)).1,by simp only[q130]; show _<=0+32 * (room - r0); omega⟩⟩
theorem q554{N:Nat}(hN:HN N)(x:DInstance)(room:Int)(h:0<=room/\room<=1048576)(hf:(TInstance:Ty).fits x)(u:Unit):Ret (F_10 N (x,room,u)) (fun r=>r.1<=room/\(0<=r.1->((x.1.size<4000000)/\(x.2.2.1.length<4000000))/\(q53 x:Int)<=2+32 * (room - r.1))):=by
 have hm:=q31;unfold F_10;dsimp only;have hf0:=hf.1;rw[wrapI (n:=room - (x.1.size:Int)) (by omega) (by omega)];refine rg ?_ ?_ <;> intro g0
 .exact ra ⟨by show (-1:Int)<=room; omega,fun h=>absurd h (by decide)⟩
 have hf1:=hf.2.2.1;refine Ret.bind (q93 hN x.2.2.1 (room - (x.1.size:Int)) ⟨by omega,by omega⟩ hf1 ()) ?_;rintro ⟨r1,v1⟩ ⟨a1,b1⟩;dsimp only at a1 b1 |-;refine rg ?_ ?_ <;> intro g1
 .exact ra ⟨by show (-1:Int)<=room; omega,fun h=>absurd h (by decide)⟩
 have c1:=(b1 (by omega)).2;exact ra ⟨by show r1<=room; omega,fun _=>⟨⟨(by omega),(b1 (by omega)).1⟩,by simp only[q53]; show _<=2+32 * (room - r1); omega⟩⟩
theorem q514{N:Nat}(hN:HN N)(x:List DInstance)(room:Int)(h:0<=room/\room<=1048576)(hf:((.slice TInstance):Ty).fits x)(u:Unit):Ret (F_11 N (x,room,u)) (fun r=>r.1<=room/\(0<=r.1->(x.length<4000000/\∀ e0∈x,(e0.1.size<4000000)/\(e0.2.2.1.length<4000000))/\(q77 x:Int)<=32 * (room - r.1))):=by
 have hm:=q31;unfold F_11;have hl:=hf.1;dsimp only;rw[wrapI (n:=room - (x.length:Int)) (by omega) (by omega)];refine rg ?_ ?_ <;> intro h1
 .exact ra ⟨by show (-1:Int)<=room; omega,fun h=>absurd h (by decide)⟩
 refine ry 0 x.length (fun i r _=>0<=r/\r<=room - (x.length:Int)/\(∀ j,j<i->∀ h:j<x.length,(x[j].1.size<4000000)/\(x[j].2.2.1.length<4000000))/\((((x.take i).map fun e=>q53 e).sum:Nat):Int)<=32 * (i:Int)+32 * (room - (x.length:Int) - r)) (by omega) (by omega) (by omega) ⟨by omega,by omega,q18,by simp⟩ ?_ ?_
 .rintro i r t next _ hi ⟨hr0,hr,hI,hS⟩ hn
  have hfi:=hf.2 _ (aR hi);have hts:=q42 (fun e=>q53 e) hi;dsimp only at hts |-;refine rf ?_ ?_
  .omega
  refine rc hi (Ret.bind (q554 hN x[i] r ⟨hr0,by omega⟩ hfi ()) ?_);rintro ⟨r2,v⟩ ⟨h2,h3⟩;dsimp only at h2 h3 |-;refine rg ?_ ?_ <;> intro h4
  .exact ra ⟨by show (-1:Int)<=room; omega,fun h=>absurd h (by decide)⟩
  .obtain ⟨h5,h6⟩:=h3 (by omega);exact hn _ _ ⟨by omega,by omega,q15 hI fun _=>h5,by rw[hts]; omega⟩
 .rintro r t next ⟨hr0,hr,hI,hS⟩
  rw[aP] at hS;dsimp only;refine rd ?_ (ra ⟨by show r<=room; omega,fun _=>⟨⟨by omega,q13.2 fun j hj=>hI j hj hj⟩,?_⟩⟩)
  .omega
  .unfold q77; show _<=32 * (room - r); omega
theorem q649{N:Nat}(hN:HN N)(x:List (ByteArray))(room:Int)(h:0<=room/\room<=1048576)(hf:((.slice (.str)):Ty).fits x)(u:Unit):Ret (F_12 N (x,room,u)) (fun r=>r.1<=room/\(0<=r.1->(x.length<4000000/\∀ e0∈x,e0.size<4000000)/\(q101 x:Int)<=32 * (room - r.1))):=by
 have hm:=q31;unfold F_12;have hl:=hf.1;dsimp only;rw[wrapI (n:=room - (x.length:Int)) (by omega) (by omega)];refine rg ?_ ?_ <;> intro h1
 .exact ra ⟨by show (-1:Int)<=room; omega,fun h=>absurd h (by decide)⟩
 refine ry 0 x.length (fun i r _=>0<=r/\r<=room - (x.length:Int)/\(∀ j,j<i->∀ h:j<x.length,x[j].size<4000000)/\((((x.take i).map fun e=>1).sum:Nat):Int)<=32 * (i:Int)+32 * (room - (x.length:Int) - r)) (by omega) (by omega) (by omega) ⟨by omega,by omega,q18,by simp⟩ ?_ ?_
 .rintro i r t next _ hi ⟨hr0,hr,hI,hS⟩ hn
  have hfi:=hf.2 _ (aR hi);have hts:=q42 (fun e=>1) hi;dsimp only at hts |-;refine rf ?_ ?_
  .omega
  refine rc hi ?_;have hfi:x[i].size<=maxLen:=hfi;rw[wrapI (n:=r - (x[i].size:Int)) (by omega) (by omega)];refine rg ?_ ?_ <;> intro h2
  .exact ra ⟨by show (-1:Int)<=room; omega,fun h=>absurd h (by decide)⟩
  .exact hn _ _ ⟨by omega,by omega,q15 hI fun _=>by omega,by rw[hts]; omega⟩
 .rintro r t next ⟨hr0,hr,hI,hS⟩
  rw[aP] at hS;dsimp only;refine rd ?_ (ra ⟨by show r<=room; omega,fun _=>⟨⟨by omega,q13.2 fun j hj=>hI j hj hj⟩,?_⟩⟩)
  .omega
  .unfold q101; show _<=32 * (room - r); omega
theorem q764{N:Nat}(hN:HN N)(x:DPort)(room:Int)(h:0<=room/\room<=1048576)(hf:(TPort:Ty).fits x)(u:Unit):Ret (F_13 N (x,room,u)) (fun r=>r.1<=room/\(0<=r.1->((x.1.size<4000000))/\(q140 x:Int)<=3+32 * (room - r.1))):=by
 have hm:=q31;unfold F_13;dsimp only;have hf0:=hf.1;rw[wrapI (n:=room - (x.1.size:Int)) (by omega) (by omega)];refine rg ?_ ?_ <;> intro g0
 .exact ra ⟨by show (-1:Int)<=room; omega,fun h=>absurd h (by decide)⟩
 exact ra ⟨by show (room - (x.1.size:Int))<=room; omega,fun _=>⟨(by omega),by simp only[q140]; show _<=3+32 * (room - (room - (x.1.size:Int))); omega⟩⟩
theorem q734{N:Nat}(hN:HN N)(x:List DPort)(room:Int)(h:0<=room/\room<=1048576)(hf:((.slice TPort):Ty).fits x)(u:Unit):Ret (F_14 N (x,room,u)) (fun r=>r.1<=room/\(0<=r.1->(x.length<4000000/\∀ e0∈x,(e0.1.size<4000000))/\(q158 x:Int)<=32 * (room - r.1))):=by
 have hm:=q31;unfold F_14;have hl:=hf.1;dsimp only;rw[wrapI (n:=room - (x.length:Int)) (by omega) (by omega)];refine rg ?_ ?_ <;> intro h1
 .exact ra ⟨by show (-1:Int)<=room; omega,fun h=>absurd h (by decide)⟩
 refine ry 0 x.length (fun i r _=>0<=r/\r<=room - (x.length:Int)/\(∀ j,j<i->∀ h:j<x.length,(x[j].1.size<4000000))/\((((x.take i).map fun e=>q140 e).sum:Nat):Int)<=32 * (i:Int)+32 * (room - (x.length:Int) - r)) (by omega) (by omega) (by omega) ⟨by omega,by omega,q18,by simp⟩ ?_ ?_
 .rintro i r t next _ hi ⟨hr0,hr,hI,hS⟩ hn
  have hfi:=hf.2 _ (aR hi);have hts:=q42 (fun e=>q140 e) hi;dsimp only at hts |-;refine rf ?_ ?_
  .omega
  refine rc hi (Ret.bind (q764 hN x[i] r ⟨hr0,by omega⟩ hfi ()) ?_);rintro ⟨r2,v⟩ ⟨h2,h3⟩;dsimp only at h2 h3 |-;refine rg ?_ ?_ <;> intro h4
  .exact ra ⟨by show (-1:Int)<=room; omega,fun h=>absurd h (by decide)⟩
  .obtain ⟨h5,h6⟩:=h3 (by omega);exact hn _ _ ⟨by omega,by omega,q15 hI fun _=>h5,by rw[hts]; omega⟩
 .rintro r t next ⟨hr0,hr,hI,hS⟩
  rw[aP] at hS;dsimp only;refine rd ?_ (ra ⟨by show r<=room; omega,fun _=>⟨⟨by omega,q13.2 fun j hj=>hI j hj hj⟩,?_⟩⟩)
  .omega
  .unfold q158; show _<=32 * (room - r); omega
theorem q694{N:Nat}(hN:HN N)(x:DDesign)(room:Int)(h:0<=room/\room<=1048576)(hf:(TDesign:Ty).fits x)(u:Unit):Ret (F_15 N (x,room,u)) (fun r=>r.1<=room/\(0<=r.1->((x.1.length<4000000/\∀ e0∈x.1,(e0.1.size<4000000)/\(e0.2.2.1.length<4000000))/\(x.2.1.length<4000000/\∀ e0∈x.2.1,e0.size<4000000)/\(x.2.2.1.length<4000000/\∀ e0∈x.2.2.1,(e0.1.size<4000000)))/\(q166 x:Int)<=0+32 * (room - r.1))):=by
 have hm:=q31;unfold F_15;dsimp only;have hf0:=hf.1;refine Ret.bind (q514 hN x.1 room ⟨by omega,by omega⟩ hf0 ()) ?_;rintro ⟨r0,v0⟩ ⟨a0,b0⟩;dsimp only at a0 b0 |-;refine rg ?_ ?_ <;> intro g0
 .exact ra ⟨by show (-1:Int)<=room; omega,fun h=>absurd h (by decide)⟩
 have hf1:=hf.2.1;refine Ret.bind (q649 hN x.2.1 r0 ⟨by omega,by omega⟩ hf1 ()) ?_;rintro ⟨r1,v1⟩ ⟨a1,b1⟩;dsimp only at a1 b1 |-;refine rg ?_ ?_ <;> intro g1
 .exact ra ⟨by show (-1:Int)<=room; omega,fun h=>absurd h (by decide)⟩
 have hf2:=hf.2.2.1;refine Ret.bind (q734 hN x.2.2.1 r1 ⟨by omega,by omega⟩ hf2 ()) ?_;rintro ⟨r2,v2⟩ ⟨a2,b2⟩;dsimp only at a2 b2 |-;refine rg ?_ ?_ <;> intro g2
 .exact ra ⟨by show (-1:Int)<=room; omega,fun h=>absurd h (by decide)⟩
 have c0:=(b0 (by omega)).2;have c1:=(b1 (by omega)).2;have c2:=(b2 (by omega)).2;exact ra ⟨by show r2<=room; omega,fun _=>⟨⟨(b0 (by omega)).1,(b1 (by omega)).1,(b2 (by omega)).1⟩,by simp only[q166]; show _<=0+32 * (room - r2); omega⟩⟩
theorem q770{N:Nat}(hN:HN N)(x:DWire)(room:Int)(h:0<=room/\room<=1048576)(hf:(TWire:Ty).fits x)(u:Unit):Ret (F_16 N (x,room,u)) (fun r=>r.1<=room/\(0<=r.1->((x.1.length<4000000)/\(x.2.1.length<4000000)/\(x.2.2.1.length<4000000)/\(x.2.2.2.1.length<4000000))/\(q147 x:Int)<=0+32 * (room - r.1))):=by
 have hm:=q31;unfold F_16;dsimp only;have hf0:=hf.1;refine Ret.bind (q93 hN x.1 room ⟨by omega,by omega⟩ hf0 ()) ?_;rintro ⟨r0,v0⟩ ⟨a0,b0⟩;dsimp only at a0 b0 |-;refine rg ?_ ?_ <;> intro g0
 .exact ra ⟨by show (-1:Int)<=room; omega,fun h=>absurd h (by decide)⟩
 have hf1:=hf.2.1;refine Ret.bind (q93 hN x.2.1 r0 ⟨by omega,by omega⟩ hf1 ()) ?_;rintro ⟨r1,v1⟩ ⟨a1,b1⟩;dsimp only at a1 b1 |-;refine rg ?_ ?_ <;> intro g1
 .exact ra ⟨by show (-1:Int)<=room; omega,fun h=>absurd h (by decide)⟩
 have hf2:=hf.2.2.1;refine Ret.bind (q93 hN x.2.2.1 r1 ⟨by omega,by omega⟩ hf2 ()) ?_;rintro ⟨r2,v2⟩ ⟨a2,b2⟩;dsimp only at a2 b2 |-;refine rg ?_ ?_ <;> intro g2
 .exact ra ⟨by show (-1:Int)<=room; omega,fun h=>absurd h (by decide)⟩
 have hf3:=hf.2.2.2.1;refine Ret.bind (q93 hN x.2.2.2.1 r2 ⟨by omega,by omega⟩ hf3 ()) ?_;rintro ⟨r3,v3⟩ ⟨a3,b3⟩;dsimp only at a3 b3 |-;refine rg ?_ ?_ <;> intro g3
 .exact ra ⟨by show (-1:Int)<=room; omega,fun h=>absurd h (by decide)⟩
 have c0:=(b0 (by omega)).2;have c1:=(b1 (by omega)).2;have c2:=(b2 (by omega)).2;have c3:=(b3 (by omega)).2;exact ra ⟨by show r3<=room; omega,fun _=>⟨⟨(b0 (by omega)).1,(b1 (by omega)).1,(b2 (by omega)).1,(b3 (by omega)).1⟩,by simp only[q147]; show _<=0+32 * (room - r3); omega⟩⟩
theorem q743{N:Nat}(hN:HN N)(x:List DWire)(room:Int)(h:0<=room/\room<=1048576)(hf:((.slice TWire):Ty).fits x)(u:Unit):Ret (F_17 N (x,room,u)) (fun r=>r.1<=room/\(0<=r.1->(x.length<4000000/\∀ e0∈x,(e0.1.length<4000000)/\(e0.2.1.length<4000000)/\(e0.2.2.1.length<4000000)/\(e0.2.2.2.1.length<4000000))/\(q167 x:Int)<=32 * (room - r.1))):=by
 have hm:=q31;unfold F_17;have hl:=hf.1;dsimp only;rw[wrapI (n:=room - (x.length:Int)) (by omega) (by omega)];refine rg ?_ ?_ <;> intro h1
 .exact ra ⟨by show (-1:Int)<=room; omega,fun h=>absurd h (by decide)⟩
 refine ry 0 x.length (fun i r _=>0<=r/\r<=room - (x.length:Int)/\(∀ j,j<i->∀ h:j<x.length,(x[j].1.length<4000000)/\(x[j].2.1.length<4000000)/\(x[j].2.2.1.length<4000000)/\(x[j].2.2.2.1.length<4000000))/\((((x.take i).map fun e=>q147 e).sum:Nat):Int)<=32 * (i:Int)+32 * (room - (x.length:Int) - r)) (by omega) (by omega) (by omega) ⟨by omega,by omega,q18,by simp⟩ ?_ ?_
 .rintro i r t next _ hi ⟨hr0,hr,hI,hS⟩ hn
  have hfi:=hf.2 _ (aR hi);have hts:=q42 (fun e=>q147 e) hi;dsimp only at hts |-;refine rf ?_ ?_
  .omega
  refine rc hi (Ret.bind (q770 hN x[i] r ⟨hr0,by omega⟩ hfi ()) ?_);rintro ⟨r2,v⟩ ⟨h2,h3⟩;dsimp only at h2 h3 |-;refine rg ?_ ?_ <;> intro h4
  .exact ra ⟨by show (-1:Int)<=room; omega,fun h=>absurd h (by decide)⟩
  .obtain ⟨h5,h6⟩:=h3 (by omega);exact hn _ _ ⟨by omega,by omega,q15 hI fun _=>h5,by rw[hts]; omega⟩
 .rintro r t next ⟨hr0,hr,hI,hS⟩
  rw[aP] at hS;dsimp only;refine rd ?_ (ra ⟨by show r<=room; omega,fun _=>⟨⟨by omega,q13.2 fun j hj=>hI j hj hj⟩,?_⟩⟩)
  .omega
  .unfold q167; show _<=32 * (room - r); omega
theorem q729{N:Nat}(hN:HN N)(x:DBlock)(room:Int)(h:0<=room/\room<=1048576)(hf:(TBlock:Ty).fits x)(u:Unit):Ret (F_18 N (x,room,u)) (fun r=>r.1<=room/\(0<=r.1->(((x.1.1.length<4000000/\∀ e0∈x.1.1,(e0.1.size<4000000)/\(e0.2.2.1.length<4000000/\∀ e1∈e0.2.2.1,(e1.1.size<4000000))/\(e0.2.2.2.1.length<4000000/\∀ e1∈e0.2.2.2.1,(e1.2.2.2.2.1.length<4000000/\∀ e2∈e1.2.2.2.2.1,(e2.1.length<4000000)/\(e2.2.1.length<4000000)/\(e2.2.2.1.length<4000000))/\(e1.2.2.2.2.2.1.length<4000000/\∀ e2∈e1.2.2.2.2.2.1,(e2.1.length<4000000)/\(e2.2.1.length<4000000)/\(e2.2.2.1.length<4000000)))/\(e0.2.2.2.2.1.length<4000000)))/\((x.2.1.1.length<4000000/\∀ e0∈x.2.1.1,(e0.1.size<4000000)/\(e0.2.2.1.length<4000000))/\(x.2.1.2.1.length<4000000/\∀ e0∈x.2.1.2.1,e0.size<4000000)/\(x.2.1.2.2.1.length<4000000/\∀ e0∈x.2.1.2.2.1,(e0.1.size<4000000)))/\(x.2.2.1.length<4000000/\∀ e0∈x.2.2.1,(e0.1.length<4000000)/\(e0.2.1.length<4000000)/\(e0.2.2.1.length<4000000)/\(e0.2.2.2.1.length<4000000)))/\(q282 x:Int)<=0+32 * (room - r.1))):=by
 have hm:=q31;unfold F_18;dsimp only;have hf0:=hf.1;refine Ret.bind (q640 hN x.1 room ⟨by omega,by omega⟩ hf0 ()) ?_;rintro ⟨r0,v0⟩ ⟨a0,b0⟩;dsimp only at a0 b0 |-;refine rg ?_ ?_ <;> intro g0
 .exact ra ⟨by show (-1:Int)<=room; omega,fun h=>absurd h (by decide)⟩
 have hf1:=hf.2.1;refine Ret.bind (q694 hN x.2.1 r0 ⟨by omega,by omega⟩ hf1 ()) ?_;rintro ⟨r1,v1⟩ ⟨a1,b1⟩;dsimp only at a1 b1 |-;refine rg ?_ ?_ <;> intro g1
 .exact ra ⟨by show (-1:Int)<=room; omega,fun h=>absurd h (by decide)⟩
 have hf2:=hf.2.2.1;refine Ret.bind (q743 hN x.2.2.1 r1 ⟨by omega,by omega⟩ hf2 ()) ?_;rintro ⟨r2,v2⟩ ⟨a2,b2⟩;dsimp only at a2 b2 |-;refine rg ?_ ?_ <;> intro g2
 .exact ra ⟨by show (-1:Int)<=room; omega,fun h=>absurd h (by decide)⟩
 have c0:=(b0 (by omega)).2;have c1:=(b1 (by omega)).2;have c2:=(b2 (by omega)).2;exact ra ⟨by show r2<=room; omega,fun _=>⟨⟨(b0 (by omega)).1,(b1 (by omega)).1,(b2 (by omega)).1⟩,by simp only[q282]; show _<=0+32 * (room - r2); omega⟩⟩
theorem q789{N:Nat}(hN:1000000000000<=N)(x:List DPin)(hs:x.length<4000000/\∀ e0∈x,(e0.1.size<4000000))(k:Int)(h0:0<=k)(hb:k+(q278 x:Nat)<=100000000000):F_152 N x k=some (k+(q278 x:Nat)):=by
 unfold F_152;have hlen:x.length<4000000:=hs.1;refine q96 (fun e=>q196 e) hN h0 hb hlen ?_ ?_
 .intro i hi m next hm hmb hn
  have hse:=hs.2 _ (aR hi);simp only[q196] at hmb;dsimp only[nth];refine rf (by omega) ?_;refine vb hN (by (try simp (disch:=omega) only [wrapI]); omega) fun _=>?_;refine rc hi ?_;refine rc hi ?_;refine rc hi ?_;refine rc hi ?_;refine rz hn ?_
  (try simp (disch:=omega) only [wrapI])
  simp only[q196];omega
 .intro m next
  dsimp only[nth];exact Ret.eq (rd (by omega) (ra rfl))
theorem q91{N:Nat}(hN:1000000000000<=N)(x:List (Int))(hs:x.length<4000000)(k:Int)(h0:0<=k)(hb:k+(q36 x:Nat)<=100000000000):F_153 N x k=some (k+(q36 x:Nat)):=by
 unfold F_153;have hlen:x.length<4000000:=hs;refine q96 (fun e=>1) hN h0 hb hlen ?_ ?_
 .intro i hi m next hm hmb hn
  (try dsimp only at hmb)
  dsimp only[nth];refine rf (by omega) ?_;refine rc hi ?_;refine rz hn ?_
  (try simp (disch:=omega) only [wrapI])
  omega
 .intro m next
  dsimp only[nth];exact Ret.eq (rd (by omega) (ra rfl))
theorem q472{N:Nat}(hN:1000000000000<=N)(x:List DTable)(hs:x.length<4000000/\∀ e0∈x,(e0.1.length<4000000)/\(e0.2.1.length<4000000)/\(e0.2.2.1.length<4000000))(k:Int)(h0:0<=k)(hb:k+(q125 x:Nat)<=100000000000):F_154 N x k=some (k+(q125 x:Nat)):=by
 unfold F_154;have hlen:x.length<4000000:=hs.1;refine q96 (fun e=>q111 e) hN h0 hb hlen ?_ ?_
 .intro i hi m next hm hmb hn
  have hse:=hs.2 _ (aR hi);simp only[q111] at hmb;dsimp only[nth];refine rf (by omega) ?_;refine rc hi ?_;refine rb (q91 hN _ (hse.1) _ (by (try simp (disch:=omega) only [wrapI]); omega) (by (try simp (disch:=omega) only [wrapI]); omega)) ?_;refine rc hi ?_;refine rb (q91 hN _ (hse.2.1) _ (by (try simp (disch:=omega) only [wrapI]); omega) (by (try simp (disch:=omega) only [wrapI]); omega)) ?_;refine rc hi ?_;refine rb (q91 hN _ (hse.2.2) _ (by (try simp (disch:=omega) only [wrapI]); omega) (by (try simp (disch:=omega) only [wrapI]); omega)) ?_;refine rz hn ?_
  (try simp (disch:=omega) only [wrapI])
  simp only[q111];omega
 .intro m next
  dsimp only[nth];exact Ret.eq (rd (by omega) (ra rfl))
theorem q779{N:Nat}(hN:1000000000000<=N)(x:List DArc)(hs:x.length<4000000/\∀ e0∈x,(e0.2.2.2.2.1.length<4000000/\∀ e1∈e0.2.2.2.2.1,(e1.1.length<4000000)/\(e1.2.1.length<4000000)/\(e1.2.2.1.length<4000000))/\(e0.2.2.2.2.2.1.length<4000000/\∀ e1∈e0.2.2.2.2.2.1,(e1.1.length<4000000)/\(e1.2.1.length<4000000)/\(e1.2.2.1.length<4000000)))(k:Int)(h0:0<=k)(hb:k+(q288 x:Nat)<=100000000000):F_155 N x k=some (k+(q288 x:Nat)):=by
 unfold F_155;have hlen:x.length<4000000:=hs.1;refine q96 (fun e=>q198 e) hN h0 hb hlen ?_ ?_
 .intro i hi m next hm hmb hn
  have hse:=hs.2 _ (aR hi);simp only[q198] at hmb;dsimp only[nth];refine rf (by omega) ?_;refine rc hi ?_;refine rc hi ?_;refine rc hi ?_;refine rc hi ?_;refine rc hi ?_;refine rb (q472 hN _ (hse.1) _ (by (try simp (disch:=omega) only [wrapI]); omega) (by (try simp (disch:=omega) only [wrapI]); omega)) ?_;refine rc hi ?_;refine rb (q472 hN _ (hse.2) _ (by (try simp (disch:=omega) only [wrapI]); omega) (by (try simp (disch:=omega) only [wrapI]); omega)) ?_;refine rz hn ?_
  (try simp (disch:=omega) only [wrapI])
  simp only[q198];omega
 .intro m next
  dsimp only[nth];exact Ret.eq (rd (by omega) (ra rfl))
theorem q755{N:Nat}(hN:1000000000000<=N)(x:List DCell)(hs:x.length<4000000/\∀ e0∈x,(e0.1.size<4000000)/\(e0.2.2.1.length<4000000/\∀ e1∈e0.2.2.1,(e1.1.size<4000000))/\(e0.2.2.2.1.length<4000000/\∀ e1∈e0.2.2.2.1,(e1.2.2.2.2.1.length<4000000/\∀ e2∈e1.2.2.2.2.1,(e2.1.length<4000000)/\(e2.2.1.length<4000000)/\(e2.2.2.1.length<4000000))/\(e1.2.2.2.2.2.1.length<4000000/\∀ e2∈e1.2.2.2.2.2.1,(e2.1.length<4000000)/\(e2.2.1.length<4000000)/\(e2.2.2.1.length<4000000)))/\(e0.2.2.2.2.1.length<4000000))(k:Int)(h0:0<=k)(hb:k+(q161 x:Nat)<=100000000000):F_156 N x k=some (k+(q161 x:Nat)):=by
 unfold F_156;have hlen:x.length<4000000:=hs.1;refine q96 (fun e=>q139 e) hN h0 hb hlen ?_ ?_
 .intro i hi m next hm hmb hn
  have hse:=hs.2 _ (aR hi);simp only[q139] at hmb;dsimp only[nth];refine rf (by omega) ?_;refine vb hN (by (try simp (disch:=omega) only [wrapI]); omega) fun _=>?_;refine rc hi ?_;refine rc hi ?_;refine rc hi ?_;refine rb (q789 hN _ (hse.2.1) _ (by (try simp (disch:=omega) only [wrapI]); omega) (by (try simp (disch:=omega) only [wrapI]); omega)) ?_;refine rc hi ?_;refine rb (q779 hN _ (hse.2.2.1) _ (by (try simp (disch:=omega) only [wrapI]); omega) (by (try simp (disch:=omega) only [wrapI]); omega)) ?_;refine rc hi ?_;refine rb (q91 hN _ (hse.2.2.2) _ (by (try simp (disch:=omega) only [wrapI]); omega) (by (try simp (disch:=omega) only [wrapI]); omega)) ?_;refine rc hi ?_;refine rc hi ?_;refine rz hn ?_
  (try simp (disch:=omega) only [wrapI])
  simp only[q139];omega
 .intro m next
  dsimp only[nth];exact Ret.eq (rd (by omega) (ra rfl))
theorem q646{N:Nat}(hN:1000000000000<=N)(x:DLibrary)(hs:(x.1.length<4000000/\∀ e0∈x.1,(e0.1.size<4000000)/\(e0.2.2.1.length<4000000/\∀ e1∈e0.2.2.1,(e1.1.size<4000000))/\(e0.2.2.2.1.length<4000000/\∀ e1∈e0.2.2.2.1,(e1.2.2.2.2.1.length<4000000/\∀ e2∈e1.2.2.2.2.1,(e2.1.length<4000000)/\(e2.2.1.length<4000000)/\(e2.2.2.1.length<4000000))/\(e1.2.2.2.2.2.1.length<4000000/\∀ e2∈e1.2.2.2.2.2.1,(e2.1.length<4000000)/\(e2.2.1.length<4000000)/\(e2.2.2.1.length<4000000)))/\(e0.2.2.2.2.1.length<4000000)))(k:Int)(h0:0<=k)(hb:k+(q102 x:Nat)<=100000000000):F_157 N x k=some (k+(q102 x:Nat)):=by unfold F_157;unfold q102 at hb |-;refine Ret.eq ?_;refine rb (q755 hN _ (hs) _ (by omega) (by omega)) ?_;exact ra (by omega)
theorem q477{N:Nat}(hN:1000000000000<=N)(x:List DInstance)(hs:x.length<4000000/\∀ e0∈x,(e0.1.size<4000000)/\(e0.2.2.1.length<4000000))(k:Int)(h0:0<=k)(hb:k+(q77 x:Nat)<=100000000000):F_158 N x k=some (k+(q77 x:Nat)):=by
 unfold F_158;have hlen:x.length<4000000:=hs.1;refine q96 (fun e=>q53 e) hN h0 hb hlen ?_ ?_
 .intro i hi m next hm hmb hn
  have hse:=hs.2 _ (aR hi);simp only[q53] at hmb;dsimp only[nth];refine rf (by omega) ?_;refine vb hN (by (try simp (disch:=omega) only [wrapI]); omega) fun _=>?_;refine rc hi ?_;refine rc hi ?_;refine rc hi ?_;refine rb (q91 hN _ (hse.2) _ (by (try simp (disch:=omega) only [wrapI]); omega) (by (try simp (disch:=omega) only [wrapI]); omega)) ?_;refine rz hn ?_
  (try simp (disch:=omega) only [wrapI])
  simp only[q53];omega
 .intro m next
  dsimp only[nth];exact Ret.eq (rd (by omega) (ra rfl))
theorem q645{N:Nat}(hN:1000000000000<=N)(x:List (ByteArray))(hs:x.length<4000000/\∀ e0∈x,e0.size<4000000)(k:Int)(h0:0<=k)(hb:k+(q101 x:Nat)<=100000000000):F_159 N x k=some (k+(q101 x:Nat)):=by
 unfold F_159;have hlen:x.length<4000000:=hs.1;refine q96 (fun e=>1) hN h0 hb hlen ?_ ?_
 .intro i hi m next hm hmb hn
  (try dsimp only at hmb)
  dsimp only[nth];refine rf (by omega) ?_;refine vb hN (by (try simp (disch:=omega) only [wrapI]); omega) fun _=>?_;refine rc hi ?_;refine rz hn ?_
  (try simp (disch:=omega) only [wrapI])
  omega
 .intro m next
  dsimp only[nth];exact Ret.eq (rd (by omega) (ra rfl))
theorem q741{N:Nat}(hN:1000000000000<=N)(x:List DPort)(hs:x.length<4000000/\∀ e0∈x,(e0.1.size<4000000))(k:Int)(h0:0<=k)(hb:k+(q158 x:Nat)<=100000000000):F_160 N x k=some (k+(q158 x:Nat)):=by
 unfold F_160;have hlen:x.length<4000000:=hs.1;refine q96 (fun e=>q140 e) hN h0 hb hlen ?_ ?_
 .intro i hi m next hm hmb hn
  have hse:=hs.2 _ (aR hi);simp only[q140] at hmb;dsimp only[nth];refine rf (by omega) ?_;refine vb hN (by (try simp (disch:=omega) only [wrapI]); omega) fun _=>?_;refine rc hi ?_;refine rc hi ?_;refine rc hi ?_;refine rz hn ?_
  (try simp (disch:=omega) only [wrapI])
  simp only[q140];omega
 .intro m next
  dsimp only[nth];exact Ret.eq (rd (by omega) (ra rfl))
theorem q702{N:Nat}(hN:1000000000000<=N)(x:DDesign)(hs:(x.1.length<4000000/\∀ e0∈x.1,(e0.1.size<4000000)/\(e0.2.2.1.length<4000000))/\(x.2.1.length<4000000/\∀ e0∈x.2.1,e0.size<4000000)/\(x.2.2.1.length<4000000/\∀ e0∈x.2.2.1,(e0.1.size<4000000)))(k:Int)(h0:0<=k)(hb:k+(q120 x:Nat)<=100000000000):F_161 N x k=some (k+(q120 x:Nat)):=by unfold F_161;unfold q120 at hb |-;refine Ret.eq ?_;refine rb (q477 hN _ (hs.1) _ (by omega) (by omega)) ?_;refine rb (q645 hN _ (hs.2.1) _ (by omega) (by omega)) ?_;refine rb (q741 hN _ (hs.2.2) _ (by omega) (by omega)) ?_;exact ra (by omega)
theorem q760{N:Nat}(hN:1000000000000<=N)(x:List DWire)(hs:x.length<4000000/\∀ e0∈x,(e0.1.length<4000000)/\(e0.2.1.length<4000000)/\(e0.2.2.1.length<4000000)/\(e0.2.2.2.1.length<4000000))(k:Int)(h0:0<=k)(hb:k+(q167 x:Nat)<=100000000000):F_162 N x k=some (k+(q167 x:Nat)):=by
 unfold F_162;have hlen:x.length<4000000:=hs.1;refine q96 (fun e=>q147 e) hN h0 hb hlen ?_ ?_
 .intro i hi m next hm hmb hn
  have hse:=hs.2 _ (aR hi);simp only[q147] at hmb;dsimp only[nth];refine rf (by omega) ?_;refine rc hi ?_;refine rb (q91 hN _ (hse.1) _ (by (try simp (disch:=omega) only [wrapI]); omega) (by (try simp (disch:=omega) only [wrapI]); omega)) ?_;refine rc hi ?_;refine rb (q91 hN _ (hse.2.1) _ (by (try simp (disch:=omega) only [wrapI]); omega) (by (try simp (disch:=omega) only [wrapI]); omega)) ?_;refine rc hi ?_;refine rb (q91 hN _ (hse.2.2.1) _ (by (try simp (disch:=omega) only [wrapI]); omega) (by (try simp (disch:=omega) only [wrapI]); omega)) ?_;refine rc hi ?_;refine rb (q91 hN _ (hse.2.2.2) _ (by (try simp (disch:=omega) only [wrapI]); omega) (by (try simp (disch:=omega) only [wrapI]); omega)) ?_;refine rz hn ?_
  (try simp (disch:=omega) only [wrapI])
  simp only[q147];omega
 .intro m next
  dsimp only[nth];exact Ret.eq (rd (by omega) (ra rfl))
theorem q747{N:Nat}(hN:1000000000000<=N)(x:DBlock)(hs:((x.1.1.length<4000000/\∀ e0∈x.1.1,(e0.1.size<4000000)/\(e0.2.2.1.length<4000000/\∀ e1∈e0.2.2.1,(e1.1.size<4000000))/\(e0.2.2.2.1.length<4000000/\∀ e1∈e0.2.2.2.1,(e1.2.2.2.2.1.length<4000000/\∀ e2∈e1.2.2.2.2.1,(e2.1.length<4000000)/\(e2.2.1.length<4000000)/\(e2.2.2.1.length<4000000))/\(e1.2.2.2.2.2.1.length<4000000/\∀ e2∈e1.2.2.2.2.2.1,(e2.1.length<4000000)/\(e2.2.1.length<4000000)/\(e2.2.2.1.length<4000000)))/\(e0.2.2.2.2.1.length<4000000)))/\((x.2.1.1.length<4000000/\∀ e0∈x.2.1.1,(e0.1.size<4000000)/\(e0.2.2.1.length<4000000))/\(x.2.1.2.1.length<4000000/\∀ e0∈x.2.1.2.1,e0.size<4000000)/\(x.2.1.2.2.1.length<4000000/\∀ e0∈x.2.1.2.2.1,(e0.1.size<4000000)))/\(x.2.2.1.length<4000000/\∀ e0∈x.2.2.1,(e0.1.length<4000000)/\(e0.2.1.length<4000000)/\(e0.2.2.1.length<4000000)/\(e0.2.2.2.1.length<4000000)))(k:Int)(h0:0<=k)(hb:k+(q208 x:Nat)<=100000000000):F_163 N x k=some (k+(q208 x:Nat)):=by unfold F_163;unfold q208 at hb |-;refine Ret.eq ?_;refine rb (q646 hN _ (hs.1) _ (by omega) (by omega)) ?_;refine rb (q702 hN _ (hs.2.1) _ (by omega) (by omega)) ?_;refine rb (q760 hN _ (hs.2.2) _ (by omega) (by omega)) ?_;exact ra (by omega)
end Go.Proofs.YtdgabcjahjmdoaaGreatDoor
