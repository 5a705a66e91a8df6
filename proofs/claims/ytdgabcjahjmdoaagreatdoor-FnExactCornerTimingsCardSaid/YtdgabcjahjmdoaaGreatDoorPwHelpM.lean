/- The marking functions: how much they mark. Printed by my lawgen.py. No program in sight. -/
import Derived.Test.YtdgabcjahjmdoaaGreatDoorPgV
namespace Go.Proofs.YtdgabcjahjmdoaaGreatDoor
set_option linter.unusedSimpArgs false
set_option linter.unusedVariables false
def q212(x:DPin):Nat:=1+1+1+1
def q304(x:List DPin):Nat:=(x.map fun e=>q212 e).sum
def q38(x:List (Int)):Nat:=(x.map fun e=>1).sum
def q122(x:DTable):Nat:=q38 x.1+q38 x.2.1+q38 x.2.2.1
def q130(x:List DTable):Nat:=(x.map fun e=>q122 e).sum
def q222(x:DArc):Nat:=1+1+1+1+q130 x.2.2.2.2.1+q130 x.2.2.2.2.2.1
def q287(x:List DArc):Nat:=(x.map fun e=>q222 e).sum
def q155(x:DCell):Nat:=1+1+q304 x.2.2.1+q287 x.2.2.2.1+q38 x.2.2.2.2.1+1+1
def q171(x:List DCell):Nat:=(x.map fun e=>q155 e).sum
def q134(x:DLibrary):Nat:=q171 x.1
def q112(x:DLibrary):Nat:=q171 x.1
theorem q697(x:DLibrary):q112 x<=q134 x:=by unfold q112 q134;omega
def q68(x:DInstance):Nat:=1+1+q38 x.2.2.1
def q85(x:List DInstance):Nat:=(x.map fun e=>q68 e).sum
def q113(x:List (ByteArray)):Nat:=(x.map fun e=>1).sum
def q151(x:DPort):Nat:=1+1+1
def q169(x:List DPort):Nat:=(x.map fun e=>q151 e).sum
def q176(x:DDesign):Nat:=q85 x.1+q113 x.2.1+q169 x.2.2.1
def q133(x:DDesign):Nat:=q85 x.1+q113 x.2.1+q169 x.2.2.1
theorem q798(x:DDesign):q133 x<=q176 x:=by unfold q133 q176;omega
def q152(x:DWire):Nat:=q38 x.1+q38 x.2.1+q38 x.2.2.1+q38 x.2.2.2.1
def q172(x:List DWire):Nat:=(x.map fun e=>q152 e).sum
def q312(x:DBlock):Nat:=q134 x.1+q176 x.2.1+q172 x.2.2.1
def q233(x:DBlock):Nat:=q112 x.1+q133 x.2.1+q172 x.2.2.1
theorem q856(x:DBlock):q233 x<=q312 x:=by have h0:=q697 x.1;have h1:=q798 x.2.1;unfold q233 q312;omega
def q102(x:DCorner):Nat:=1+1+1+1+1
def q181(x:List DCorner):Nat:=(x.map fun e=>q102 e).sum
def q154(x:DSpan):Nat:=1+1
def q164(x:DSource):Nat:=1+q154 x.2.1+q154 x.2.2.1
def q135(x:List DSource):Nat:=(x.map fun e=>q164 e).sum
theorem sc_Pin{N:Nat}(hN:HN N)(x:DPin)(room:Int)(h:0<=room/\room<=1048576)(hf:(TPin:Ty).fits x)(u:Unit):Ret (F_0 N (x,room,u)) (fun r=>r.1<=room/\(0<=r.1->((x.1.size<4000000))/\(q212 x:Int)<=4+32 * (room - r.1))):=by
 have hm:=q33;unfold F_0;dsimp only;have hf0:=hf.1;rw[wrapI (n:=room - (x.1.size:Int)) (by omega) (by omega)];refine rf ?_ ?_ <;> intro g0
 .exact rb ⟨by show (-1:Int)<=room; omega,fun h=>absurd h (by decide)⟩
 exact rb ⟨by show (room - (x.1.size:Int))<=room; omega,fun _=>⟨(by omega),by simp only[q212]; show _<=4+32 * (room - (room - (x.1.size:Int))); omega⟩⟩
theorem q877{N:Nat}(hN:HN N)(x:List DPin)(room:Int)(h:0<=room/\room<=1048576)(hf:((.slice TPin):Ty).fits x)(u:Unit):Ret (F_1 N (x,room,u)) (fun r=>r.1<=room/\(0<=r.1->(x.length<4000000/\∀ e0∈x,(e0.1.size<4000000))/\(q304 x:Int)<=32 * (room - r.1))):=by
 have hm:=q33;unfold F_1;have hl:=hf.1;dsimp only;rw[wrapI (n:=room - (x.length:Int)) (by omega) (by omega)];refine rf ?_ ?_ <;> intro h1
 .exact rb ⟨by show (-1:Int)<=room; omega,fun h=>absurd h (by decide)⟩
 refine ry 0 x.length (fun i r _=>0<=r/\r<=room - (x.length:Int)/\(∀ j,j<i->∀ h:j<x.length,(x[j].1.size<4000000))/\((((x.take i).map fun e=>q212 e).sum:Nat):Int)<=32 * (i:Int)+32 * (room - (x.length:Int) - r)) (by omega) (by omega) (by omega) ⟨by omega,by omega,q20,by simp⟩ ?_ ?_
 .rintro i r t next _ hi ⟨hr0,hr,hI,hS⟩ hn
  have hfi:=hf.2 _ (aR hi);have hts:=q44 (fun e=>q212 e) hi;dsimp only at hts |-;refine re ?_ ?_
  .omega
  refine rc hi (Ret.bind (sc_Pin hN x[i] r ⟨hr0,by omega⟩ hfi ()) ?_);rintro ⟨r2,v⟩ ⟨h2,h3⟩;dsimp only at h2 h3 |-;refine rf ?_ ?_ <;> intro h4
  .exact rb ⟨by show (-1:Int)<=room; omega,fun h=>absurd h (by decide)⟩
  .obtain ⟨h5,h6⟩:=h3 (by omega);exact hn _ _ ⟨by omega,by omega,q12 hI fun _=>h5,by rw[hts]; omega⟩
 .rintro r t next ⟨hr0,hr,hI,hS⟩
  rw[aP] at hS;dsimp only;refine rd ?_ (rb ⟨by show r<=room; omega,fun _=>⟨⟨by omega,q11.2 fun j hj=>hI j hj hj⟩,?_⟩⟩)
  .omega
  .unfold q304; show _<=32 * (room - r); omega
theorem q107{N:Nat}(hN:HN N)(x:List (Int))(room:Int)(h:0<=room/\room<=1048576)(hf:((.slice (.int .i64)):Ty).fits x)(u:Unit):Ret (F_2 N (x,room,u)) (fun r=>r.1<=room/\(0<=r.1->(x.length<4000000)/\(q38 x:Int)<=32 * (room - r.1))):=by
 have hm:=q33;unfold F_2;have hl:=hf.1;dsimp only;rw[wrapI (n:=room - (x.length:Int)) (by omega) (by omega)];refine rf ?_ ?_ <;> intro h1
 .exact rb ⟨by show (-1:Int)<=room; omega,fun h=>absurd h (by decide)⟩
 .have hc:q38 x<=32 * x.length:=by unfold q38;refine q441 (fun e _=>?_);omega
  exact rb ⟨by show room - (x.length:Int)<=room; omega,fun _=>⟨by omega,by show _<=32 * (room - (room - (x.length:Int))); omega⟩⟩
theorem q831{N:Nat}(hN:HN N)(x:DTable)(room:Int)(h:0<=room/\room<=1048576)(hf:(TTable:Ty).fits x)(u:Unit):Ret (F_3 N (x,room,u)) (fun r=>r.1<=room/\(0<=r.1->((x.1.length<4000000)/\(x.2.1.length<4000000)/\(x.2.2.1.length<4000000))/\(q122 x:Int)<=0+32 * (room - r.1))):=by
 have hm:=q33;unfold F_3;dsimp only;have hf0:=hf.1;refine Ret.bind (q107 hN x.1 room ⟨by omega,by omega⟩ hf0 ()) ?_;rintro ⟨r0,v0⟩ ⟨a0,b0⟩;dsimp only at a0 b0 |-;refine rf ?_ ?_ <;> intro g0
 .exact rb ⟨by show (-1:Int)<=room; omega,fun h=>absurd h (by decide)⟩
 have hf1:=hf.2.1;refine Ret.bind (q107 hN x.2.1 r0 ⟨by omega,by omega⟩ hf1 ()) ?_;rintro ⟨r1,v1⟩ ⟨a1,b1⟩;dsimp only at a1 b1 |-;refine rf ?_ ?_ <;> intro g1
 .exact rb ⟨by show (-1:Int)<=room; omega,fun h=>absurd h (by decide)⟩
 have hf2:=hf.2.2.1;refine Ret.bind (q107 hN x.2.2.1 r1 ⟨by omega,by omega⟩ hf2 ()) ?_;rintro ⟨r2,v2⟩ ⟨a2,b2⟩;dsimp only at a2 b2 |-;refine rf ?_ ?_ <;> intro g2
 .exact rb ⟨by show (-1:Int)<=room; omega,fun h=>absurd h (by decide)⟩
 have c0:=(b0 (by omega)).2;have c1:=(b1 (by omega)).2;have c2:=(b2 (by omega)).2;exact rb ⟨by show r2<=room; omega,fun _=>⟨⟨(b0 (by omega)).1,(b1 (by omega)).1,(b2 (by omega)).1⟩,by simp only[q122]; show _<=0+32 * (room - r2); omega⟩⟩
theorem q590{N:Nat}(hN:HN N)(x:List DTable)(room:Int)(h:0<=room/\room<=1048576)(hf:((.slice TTable):Ty).fits x)(u:Unit):Ret (F_4 N (x,room,u)) (fun r=>r.1<=room/\(0<=r.1->(x.length<4000000/\∀ e0∈x,(e0.1.length<4000000)/\(e0.2.1.length<4000000)/\(e0.2.2.1.length<4000000))/\(q130 x:Int)<=32 * (room - r.1))):=by
 have hm:=q33;unfold F_4;have hl:=hf.1;dsimp only;rw[wrapI (n:=room - (x.length:Int)) (by omega) (by omega)];refine rf ?_ ?_ <;> intro h1
 .exact rb ⟨by show (-1:Int)<=room; omega,fun h=>absurd h (by decide)⟩
 refine ry 0 x.length (fun i r _=>0<=r/\r<=room - (x.length:Int)/\(∀ j,j<i->∀ h:j<x.length,(x[j].1.length<4000000)/\(x[j].2.1.length<4000000)/\(x[j].2.2.1.length<4000000))/\((((x.take i).map fun e=>q122 e).sum:Nat):Int)<=32 * (i:Int)+32 * (room - (x.length:Int) - r)) (by omega) (by omega) (by omega) ⟨by omega,by omega,q20,by simp⟩ ?_ ?_
 .rintro i r t next _ hi ⟨hr0,hr,hI,hS⟩ hn
  have hfi:=hf.2 _ (aR hi);have hts:=q44 (fun e=>q122 e) hi;dsimp only at hts |-;refine re ?_ ?_
  .omega
  refine rc hi (Ret.bind (q831 hN x[i] r ⟨hr0,by omega⟩ hfi ()) ?_);rintro ⟨r2,v⟩ ⟨h2,h3⟩;dsimp only at h2 h3 |-;refine rf ?_ ?_ <;> intro h4
  .exact rb ⟨by show (-1:Int)<=room; omega,fun h=>absurd h (by decide)⟩
  .obtain ⟨h5,h6⟩:=h3 (by omega);exact hn _ _ ⟨by omega,by omega,q12 hI fun _=>h5,by rw[hts]; omega⟩
 .rintro r t next ⟨hr0,hr,hI,hS⟩
  rw[aP] at hS;dsimp only;refine rd ?_ (rb ⟨by show r<=room; omega,fun _=>⟨⟨by omega,q11.2 fun j hj=>hI j hj hj⟩,?_⟩⟩)
  .omega
  .unfold q130; show _<=32 * (room - r); omega
theorem sc_Arc{N:Nat}(hN:HN N)(x:DArc)(room:Int)(h:0<=room/\room<=1048576)(hf:(TArc:Ty).fits x)(u:Unit):Ret (F_5 N (x,room,u)) (fun r=>r.1<=room/\(0<=r.1->((x.2.2.2.2.1.length<4000000/\∀ e0∈x.2.2.2.2.1,(e0.1.length<4000000)/\(e0.2.1.length<4000000)/\(e0.2.2.1.length<4000000))/\(x.2.2.2.2.2.1.length<4000000/\∀ e0∈x.2.2.2.2.2.1,(e0.1.length<4000000)/\(e0.2.1.length<4000000)/\(e0.2.2.1.length<4000000)))/\(q222 x:Int)<=4+32 * (room - r.1))):=by
 have hm:=q33;unfold F_5;dsimp only;have hf0:=hf.2.2.2.2.1;refine Ret.bind (q590 hN x.2.2.2.2.1 room ⟨by omega,by omega⟩ hf0 ()) ?_;rintro ⟨r0,v0⟩ ⟨a0,b0⟩;dsimp only at a0 b0 |-;refine rf ?_ ?_ <;> intro g0
 .exact rb ⟨by show (-1:Int)<=room; omega,fun h=>absurd h (by decide)⟩
 have hf1:=hf.2.2.2.2.2.1;refine Ret.bind (q590 hN x.2.2.2.2.2.1 r0 ⟨by omega,by omega⟩ hf1 ()) ?_;rintro ⟨r1,v1⟩ ⟨a1,b1⟩;dsimp only at a1 b1 |-;refine rf ?_ ?_ <;> intro g1
 .exact rb ⟨by show (-1:Int)<=room; omega,fun h=>absurd h (by decide)⟩
 have c0:=(b0 (by omega)).2;have c1:=(b1 (by omega)).2;exact rb ⟨by show r1<=room; omega,fun _=>⟨⟨(b0 (by omega)).1,(b1 (by omega)).1⟩,by simp only[q222]; show _<=4+32 * (room - r1); omega⟩⟩
theorem q875{N:Nat}(hN:HN N)(x:List DArc)(room:Int)(h:0<=room/\room<=1048576)(hf:((.slice TArc):Ty).fits x)(u:Unit):Ret (F_6 N (x,room,u)) (fun r=>r.1<=room/\(0<=r.1->(x.length<4000000/\∀ e0∈x,(e0.2.2.2.2.1.length<4000000/\∀ e1∈e0.2.2.2.2.1,(e1.1.length<4000000)/\(e1.2.1.length<4000000)/\(e1.2.2.1.length<4000000))/\(e0.2.2.2.2.2.1.length<4000000/\∀ e1∈e0.2.2.2.2.2.1,(e1.1.length<4000000)/\(e1.2.1.length<4000000)/\(e1.2.2.1.length<4000000)))/\(q287 x:Int)<=32 * (room - r.1))):=by
 have hm:=q33;unfold F_6;have hl:=hf.1;dsimp only;rw[wrapI (n:=room - (x.length:Int)) (by omega) (by omega)];refine rf ?_ ?_ <;> intro h1
 .exact rb ⟨by show (-1:Int)<=room; omega,fun h=>absurd h (by decide)⟩
 refine ry 0 x.length (fun i r _=>0<=r/\r<=room - (x.length:Int)/\(∀ j,j<i->∀ h:j<x.length,(x[j].2.2.2.2.1.length<4000000/\∀ e0∈x[j].2.2.2.2.1,(e0.1.length<4000000)/\(e0.2.1.length<4000000)/\(e0.2.2.1.length<4000000))/\(x[j].2.2.2.2.2.1.length<4000000/\∀ e0∈x[j].2.2.2.2.2.1,(e0.1.length<4000000)/\(e0.2.1.length<4000000)/\(e0.2.2.1.length<4000000)))/\((((x.take i).map fun e=>q222 e).sum:Nat):Int)<=32 * (i:Int)+32 * (room - (x.length:Int) - r)) (by omega) (by omega) (by omega) ⟨by omega,by omega,q20,by simp⟩ ?_ ?_
 .rintro i r t next _ hi ⟨hr0,hr,hI,hS⟩ hn
  have hfi:=hf.2 _ (aR hi);have hts:=q44 (fun e=>q222 e) hi;dsimp only at hts |-;refine re ?_ ?_
  .omega
  refine rc hi (Ret.bind (sc_Arc hN x[i] r ⟨hr0,by omega⟩ hfi ()) ?_);rintro ⟨r2,v⟩ ⟨h2,h3⟩;dsimp only at h2 h3 |-;refine rf ?_ ?_ <;> intro h4
  .exact rb ⟨by show (-1:Int)<=room; omega,fun h=>absurd h (by decide)⟩
  .obtain ⟨h5,h6⟩:=h3 (by omega);exact hn _ _ ⟨by omega,by omega,q12 hI fun _=>h5,by rw[hts]; omega⟩
 .rintro r t next ⟨hr0,hr,hI,hS⟩
  rw[aP] at hS;dsimp only;refine rd ?_ (rb ⟨by show r<=room; omega,fun _=>⟨⟨by omega,q11.2 fun j hj=>hI j hj hj⟩,?_⟩⟩)
  .omega
  .unfold q287; show _<=32 * (room - r); omega
theorem q898{N:Nat}(hN:HN N)(x:DCell)(room:Int)(h:0<=room/\room<=1048576)(hf:(TCell:Ty).fits x)(u:Unit):Ret (F_7 N (x,room,u)) (fun r=>r.1<=room/\(0<=r.1->((x.1.size<4000000)/\(x.2.2.1.length<4000000/\∀ e0∈x.2.2.1,(e0.1.size<4000000))/\(x.2.2.2.1.length<4000000/\∀ e0∈x.2.2.2.1,(e0.2.2.2.2.1.length<4000000/\∀ e1∈e0.2.2.2.2.1,(e1.1.length<4000000)/\(e1.2.1.length<4000000)/\(e1.2.2.1.length<4000000))/\(e0.2.2.2.2.2.1.length<4000000/\∀ e1∈e0.2.2.2.2.2.1,(e1.1.length<4000000)/\(e1.2.1.length<4000000)/\(e1.2.2.1.length<4000000)))/\(x.2.2.2.2.1.length<4000000))/\(q155 x:Int)<=4+32 * (room - r.1))):=by
 have hm:=q33;unfold F_7;dsimp only;have hf0:=hf.1;rw[wrapI (n:=room - (x.1.size:Int)) (by omega) (by omega)];refine rf ?_ ?_ <;> intro g0
 .exact rb ⟨by show (-1:Int)<=room; omega,fun h=>absurd h (by decide)⟩
 have hf1:=hf.2.2.1;refine Ret.bind (q877 hN x.2.2.1 (room - (x.1.size:Int)) ⟨by omega,by omega⟩ hf1 ()) ?_;rintro ⟨r1,v1⟩ ⟨a1,b1⟩;dsimp only at a1 b1 |-;refine rf ?_ ?_ <;> intro g1
 .exact rb ⟨by show (-1:Int)<=room; omega,fun h=>absurd h (by decide)⟩
 have hf2:=hf.2.2.2.1;refine Ret.bind (q875 hN x.2.2.2.1 r1 ⟨by omega,by omega⟩ hf2 ()) ?_;rintro ⟨r2,v2⟩ ⟨a2,b2⟩;dsimp only at a2 b2 |-;refine rf ?_ ?_ <;> intro g2
 .exact rb ⟨by show (-1:Int)<=room; omega,fun h=>absurd h (by decide)⟩
 have hf3:=hf.2.2.2.2.1;refine Ret.bind (q107 hN x.2.2.2.2.1 r2 ⟨by omega,by omega⟩ hf3 ()) ?_;rintro ⟨r3,v3⟩ ⟨a3,b3⟩;dsimp only at a3 b3 |-;refine rf ?_ ?_ <;> intro g3
 .exact rb ⟨by show (-1:Int)<=room; omega,fun h=>absurd h (by decide)⟩
 have c1:=(b1 (by omega)).2;have c2:=(b2 (by omega)).2;have c3:=(b3 (by omega)).2;exact rb ⟨by show r3<=room; omega,fun _=>⟨⟨(by omega),(b1 (by omega)).1,(b2 (by omega)).1,(b3 (by omega)).1⟩,by simp only[q155]; show _<=4+32 * (room - r3); omega⟩⟩
theorem q865{N:Nat}(hN:HN N)(x:List DCell)(room:Int)(h:0<=room/\room<=1048576)(hf:((.slice TCell):Ty).fits x)(u:Unit):Ret (F_8 N (x,room,u)) (fun r=>r.1<=room/\(0<=r.1->(x.length<4000000/\∀ e0∈x,(e0.1.size<4000000)/\(e0.2.2.1.length<4000000/\∀ e1∈e0.2.2.1,(e1.1.size<4000000))/\(e0.2.2.2.1.length<4000000/\∀ e1∈e0.2.2.2.1,(e1.2.2.2.2.1.length<4000000/\∀ e2∈e1.2.2.2.2.1,(e2.1.length<4000000)/\(e2.2.1.length<4000000)/\(e2.2.2.1.length<4000000))/\(e1.2.2.2.2.2.1.length<4000000/\∀ e2∈e1.2.2.2.2.2.1,(e2.1.length<4000000)/\(e2.2.1.length<4000000)/\(e2.2.2.1.length<4000000)))/\(e0.2.2.2.2.1.length<4000000))/\(q171 x:Int)<=32 * (room - r.1))):=by
 have hm:=q33;unfold F_8;have hl:=hf.1;dsimp only;rw[wrapI (n:=room - (x.length:Int)) (by omega) (by omega)];refine rf ?_ ?_ <;> intro h1
 .exact rb ⟨by show (-1:Int)<=room; omega,fun h=>absurd h (by decide)⟩
 refine ry 0 x.length (fun i r _=>0<=r/\r<=room - (x.length:Int)/\(∀ j,j<i->∀ h:j<x.length,(x[j].1.size<4000000)/\(x[j].2.2.1.length<4000000/\∀ e0∈x[j].2.2.1,(e0.1.size<4000000))/\(x[j].2.2.2.1.length<4000000/\∀ e0∈x[j].2.2.2.1,(e0.2.2.2.2.1.length<4000000/\∀ e1∈e0.2.2.2.2.1,(e1.1.length<4000000)/\(e1.2.1.length<4000000)/\(e1.2.2.1.length<4000000))/\(e0.2.2.2.2.2.1.length<4000000/\∀ e1∈e0.2.2.2.2.2.1,(e1.1.length<4000000)/\(e1.2.1.length<4000000)/\(e1.2.2.1.length<4000000)))/\(x[j].2.2.2.2.1.length<4000000))/\((((x.take i).map fun e=>q155 e).sum:Nat):Int)<=32 * (i:Int)+32 * (room - (x.length:Int) - r)) (by omega) (by omega) (by omega) ⟨by omega,by omega,q20,by simp⟩ ?_ ?_
 .rintro i r t next _ hi ⟨hr0,hr,hI,hS⟩ hn
  have hfi:=hf.2 _ (aR hi);have hts:=q44 (fun e=>q155 e) hi;dsimp only at hts |-;refine re ?_ ?_
  .omega
  refine rc hi (Ret.bind (q898 hN x[i] r ⟨hr0,by omega⟩ hfi ()) ?_);rintro ⟨r2,v⟩ ⟨h2,h3⟩;dsimp only at h2 h3 |-;refine rf ?_ ?_ <;> intro h4
  .exact rb ⟨by show (-1:Int)<=room; omega,fun h=>absurd h (by decide)⟩
  .obtain ⟨h5,h6⟩:=h3 (by omega);exact hn _ _ ⟨by omega,by omega,q12 hI fun _=>h5,by rw[hts]; omega⟩
 .rintro r t next ⟨hr0,hr,hI,hS⟩
  rw[aP] at hS;dsimp only;refine rd ?_ (rb ⟨by show r<=room; omega,fun _=>⟨⟨by omega,q11.2 fun j hj=>hI j hj hj⟩,?_⟩⟩)
  .omega
  .unfold q171; show _<=32 * (room - r); omega
theorem q716{N:Nat}(hN:HN N)(x:DLibrary)(room:Int)(h:0<=room/\room<=1048576)(hf:(TLibrary:Ty).fits x)(u:Unit):Ret (F_9 N (x,room,u)) (fun r=>r.1<=room/\(0<=r.1->((x.1.length<4000000/\∀ e0∈x.1,(e0.1.size<4000000)/\(e0.2.2.1.length<4000000/\∀ e1∈e0.2.2.1,(e1.1.size<4000000))/\(e0.2.2.2.1.length<4000000/\∀ e1∈e0.2.2.2.1,(e1.2.2.2.2.1.length<4000000/\∀ e2∈e1.2.2.2.2.1,(e2.1.length<4000000)/\(e2.2.1.length<4000000)/\(e2.2.2.1.length<4000000))/\(e1.2.2.2.2.2.1.length<4000000/\∀ e2∈e1.2.2.2.2.2.1,(e2.1.length<4000000)/\(e2.2.1.length<4000000)/\(e2.2.2.1.length<4000000)))/\(e0.2.2.2.2.1.length<4000000)))/\(q134 x:Int)<=0+32 * (room - r.1))):=by
 have hm:=q33;unfold F_9;dsimp only;have hf0:=hf.1;refine Ret.bind (q865 hN x.1 room ⟨by omega,by omega⟩ hf0 ()) ?_;rintro ⟨r0,v0⟩ ⟨a0,b0⟩;dsimp only at a0 b0 |-;refine rf ?_ ?_ <;> intro g0
 .exact rb ⟨by show (-1:Int)<=room; omega,fun h=>absurd h (by decide)⟩
 have c0:=(b0 (by omega)).2;exact rb ⟨by show r0<=room; omega,fun _=>⟨(b0 (by omega)).1,by simp only[q134]; show _<=0+32 * (room - r0); omega⟩⟩
theorem q635{N:Nat}(hN:HN N)(x:DInstance)(room:Int)(h:0<=room/\room<=1048576)(hf:(TInstance:Ty).fits x)(u:Unit):Ret (F_10 N (x,room,u)) (fun r=>r.1<=room/\(0<=r.1->((x.1.size<4000000)/\(x.2.2.1.length<4000000))/\(q68 x:Int)<=2+32 * (room - r.1))):=by
 have hm:=q33;unfold F_10;dsimp only;have hf0:=hf.1;rw[wrapI (n:=room - (x.1.size:Int)) (by omega) (by omega)];refine rf ?_ ?_ <;> intro g0
 .exact rb ⟨by show (-1:Int)<=room; omega,fun h=>absurd h (by decide)⟩
 have hf1:=hf.2.2.1;refine Ret.bind (q107 hN x.2.2.1 (room - (x.1.size:Int)) ⟨by omega,by omega⟩ hf1 ()) ?_;rintro ⟨r1,v1⟩ ⟨a1,b1⟩;dsimp only at a1 b1 |-;refine rf ?_ ?_ <;> intro g1
 .exact rb ⟨by show (-1:Int)<=room; omega,fun h=>absurd h (by decide)⟩
 have c1:=(b1 (by omega)).2;exact rb ⟨by show r1<=room; omega,fun _=>⟨⟨(by omega),(b1 (by omega)).1⟩,by simp only[q68]; show _<=2+32 * (room - r1); omega⟩⟩
theorem q531{N:Nat}(hN:HN N)(x:List DInstance)(room:Int)(h:0<=room/\room<=1048576)(hf:((.slice TInstance):Ty).fits x)(u:Unit):Ret (F_11 N (x,room,u)) (fun r=>r.1<=room/\(0<=r.1->(x.length<4000000/\∀ e0∈x,(e0.1.size<4000000)/\(e0.2.2.1.length<4000000))/\(q85 x:Int)<=32 * (room - r.1))):=by
 have hm:=q33;unfold F_11;have hl:=hf.1;dsimp only;rw[wrapI (n:=room - (x.length:Int)) (by omega) (by omega)];refine rf ?_ ?_ <;> intro h1
 .exact rb ⟨by show (-1:Int)<=room; omega,fun h=>absurd h (by decide)⟩
 refine ry 0 x.length (fun i r _=>0<=r/\r<=room - (x.length:Int)/\(∀ j,j<i->∀ h:j<x.length,(x[j].1.size<4000000)/\(x[j].2.2.1.length<4000000))/\((((x.take i).map fun e=>q68 e).sum:Nat):Int)<=32 * (i:Int)+32 * (room - (x.length:Int) - r)) (by omega) (by omega) (by omega) ⟨by omega,by omega,q20,by simp⟩ ?_ ?_
 .rintro i r t next _ hi ⟨hr0,hr,hI,hS⟩ hn
  have hfi:=hf.2 _ (aR hi);have hts:=q44 (fun e=>q68 e) hi;dsimp only at hts |-;refine re ?_ ?_
  .omega
  refine rc hi (Ret.bind (q635 hN x[i] r ⟨hr0,by omega⟩ hfi ()) ?_);rintro ⟨r2,v⟩ ⟨h2,h3⟩;dsimp only at h2 h3 |-;refine rf ?_ ?_ <;> intro h4
  .exact rb ⟨by show (-1:Int)<=room; omega,fun h=>absurd h (by decide)⟩
  .obtain ⟨h5,h6⟩:=h3 (by omega);exact hn _ _ ⟨by omega,by omega,q12 hI fun _=>h5,by rw[hts]; omega⟩
 .rintro r t next ⟨hr0,hr,hI,hS⟩
  rw[aP] at hS;dsimp only;refine rd ?_ (rb ⟨by show r<=room; omega,fun _=>⟨⟨by omega,q11.2 fun j hj=>hI j hj hj⟩,?_⟩⟩)
  .omega
  .unfold q85; show _<=32 * (room - r); omega
theorem q727{N:Nat}(hN:HN N)(x:List (ByteArray))(room:Int)(h:0<=room/\room<=1048576)(hf:((.slice (.str)):Ty).fits x)(u:Unit):Ret (F_12 N (x,room,u)) (fun r=>r.1<=room/\(0<=r.1->(x.length<4000000/\∀ e0∈x,e0.size<4000000)/\(q113 x:Int)<=32 * (room - r.1))):=by
 have hm:=q33;unfold F_12;have hl:=hf.1;dsimp only;rw[wrapI (n:=room - (x.length:Int)) (by omega) (by omega)];refine rf ?_ ?_ <;> intro h1
 .exact rb ⟨by show (-1:Int)<=room; omega,fun h=>absurd h (by decide)⟩
 refine ry 0 x.length (fun i r _=>0<=r/\r<=room - (x.length:Int)/\(∀ j,j<i->∀ h:j<x.length,x[j].size<4000000)/\((((x.take i).map fun e=>1).sum:Nat):Int)<=32 * (i:Int)+32 * (room - (x.length:Int) - r)) (by omega) (by omega) (by omega) ⟨by omega,by omega,q20,by simp⟩ ?_ ?_
 .rintro i r t next _ hi ⟨hr0,hr,hI,hS⟩ hn
  have hfi:=hf.2 _ (aR hi);have hts:=q44 (fun e=>1) hi;dsimp only at hts |-;refine re ?_ ?_
  .omega
  refine rc hi ?_;have hfi:x[i].size<=maxLen:=hfi;rw[wrapI (n:=r - (x[i].size:Int)) (by omega) (by omega)];refine rf ?_ ?_ <;> intro h2
  .exact rb ⟨by show (-1:Int)<=room; omega,fun h=>absurd h (by decide)⟩
  .exact hn _ _ ⟨by omega,by omega,q12 hI fun _=>by omega,by rw[hts]; omega⟩
 .rintro r t next ⟨hr0,hr,hI,hS⟩
  rw[aP] at hS;dsimp only;refine rd ?_ (rb ⟨by show r<=room; omega,fun _=>⟨⟨by omega,q11.2 fun j hj=>hI j hj hj⟩,?_⟩⟩)
  .omega
  .unfold q113; show _<=32 * (room - r); omega
theorem q894{N:Nat}(hN:HN N)(x:DPort)(room:Int)(h:0<=room/\room<=1048576)(hf:(TPort:Ty).fits x)(u:Unit):Ret (F_13 N (x,room,u)) (fun r=>r.1<=room/\(0<=r.1->((x.1.size<4000000))/\(q151 x:Int)<=3+32 * (room - r.1))):=by
 have hm:=q33;unfold F_13;dsimp only;have hf0:=hf.1;rw[wrapI (n:=room - (x.1.size:Int)) (by omega) (by omega)];refine rf ?_ ?_ <;> intro g0
 .exact rb ⟨by show (-1:Int)<=room; omega,fun h=>absurd h (by decide)⟩
 exact rb ⟨by show (room - (x.1.size:Int))<=room; omega,fun _=>⟨(by omega),by simp only[q151]; show _<=3+32 * (room - (room - (x.1.size:Int))); omega⟩⟩
theorem q837{N:Nat}(hN:HN N)(x:List DPort)(room:Int)(h:0<=room/\room<=1048576)(hf:((.slice TPort):Ty).fits x)(u:Unit):Ret (F_14 N (x,room,u)) (fun r=>r.1<=room/\(0<=r.1->(x.length<4000000/\∀ e0∈x,(e0.1.size<4000000))/\(q169 x:Int)<=32 * (room - r.1))):=by
 have hm:=q33;unfold F_14;have hl:=hf.1;dsimp only;rw[wrapI (n:=room - (x.length:Int)) (by omega) (by omega)];refine rf ?_ ?_ <;> intro h1
 .exact rb ⟨by show (-1:Int)<=room; omega,fun h=>absurd h (by decide)⟩
 refine ry 0 x.length (fun i r _=>0<=r/\r<=room - (x.length:Int)/\(∀ j,j<i->∀ h:j<x.length,(x[j].1.size<4000000))/\((((x.take i).map fun e=>q151 e).sum:Nat):Int)<=32 * (i:Int)+32 * (room - (x.length:Int) - r)) (by omega) (by omega) (by omega) ⟨by omega,by omega,q20,by simp⟩ ?_ ?_
 .rintro i r t next _ hi ⟨hr0,hr,hI,hS⟩ hn
  have hfi:=hf.2 _ (aR hi);have hts:=q44 (fun e=>q151 e) hi;dsimp only at hts |-;refine re ?_ ?_
  .omega
  refine rc hi (Ret.bind (q894 hN x[i] r ⟨hr0,by omega⟩ hfi ()) ?_);rintro ⟨r2,v⟩ ⟨h2,h3⟩;dsimp only at h2 h3 |-;refine rf ?_ ?_ <;> intro h4
  .exact rb ⟨by show (-1:Int)<=room; omega,fun h=>absurd h (by decide)⟩
  .obtain ⟨h5,h6⟩:=h3 (by omega);exact hn _ _ ⟨by omega,by omega,q12 hI fun _=>h5,by rw[hts]; omega⟩
 .rintro r t next ⟨hr0,hr,hI,hS⟩
  rw[aP] at hS;dsimp only;refine rd ?_ (rb ⟨by show r<=room; omega,fun _=>⟨⟨by omega,q11.2 fun j hj=>hI j hj hj⟩,?_⟩⟩)
  .omega
  .unfold q169; show _<=32 * (room - r); omega
theorem q819{N:Nat}(hN:HN N)(x:DDesign)(room:Int)(h:0<=room/\room<=1048576)(hf:(TDesign:Ty).fits x)(u:Unit):Ret (F_15 N (x,room,u)) (fun r=>r.1<=room/\(0<=r.1->((x.1.length<4000000/\∀ e0∈x.1,(e0.1.size<4000000)/\(e0.2.2.1.length<4000000))/\(x.2.1.length<4000000/\∀ e0∈x.2.1,e0.size<4000000)/\(x.2.2.1.length<4000000/\∀ e0∈x.2.2.1,(e0.1.size<4000000)))/\(q176 x:Int)<=0+32 * (room - r.1))):=by
 have hm:=q33;unfold F_15;dsimp only;have hf0:=hf.1;refine Ret.bind (q531 hN x.1 room ⟨by omega,by omega⟩ hf0 ()) ?_;rintro ⟨r0,v0⟩ ⟨a0,b0⟩;dsimp only at a0 b0 |-;refine rf ?_ ?_ <;> intro g0
 .exact rb ⟨by show (-1:Int)<=room; omega,fun h=>absurd h (by decide)⟩
 have hf1:=hf.2.1;refine Ret.bind (q727 hN x.2.1 r0 ⟨by omega,by omega⟩ hf1 ()) ?_;rintro ⟨r1,v1⟩ ⟨a1,b1⟩;dsimp only at a1 b1 |-;refine rf ?_ ?_ <;> intro g1
 .exact rb ⟨by show (-1:Int)<=room; omega,fun h=>absurd h (by decide)⟩
 have hf2:=hf.2.2.1;refine Ret.bind (q837 hN x.2.2.1 r1 ⟨by omega,by omega⟩ hf2 ()) ?_;rintro ⟨r2,v2⟩ ⟨a2,b2⟩;dsimp only at a2 b2 |-;refine rf ?_ ?_ <;> intro g2
 .exact rb ⟨by show (-1:Int)<=room; omega,fun h=>absurd h (by decide)⟩
 have c0:=(b0 (by omega)).2;have c1:=(b1 (by omega)).2;have c2:=(b2 (by omega)).2;exact rb ⟨by show r2<=room; omega,fun _=>⟨⟨(b0 (by omega)).1,(b1 (by omega)).1,(b2 (by omega)).1⟩,by simp only[q176]; show _<=0+32 * (room - r2); omega⟩⟩
theorem q882{N:Nat}(hN:HN N)(x:DWire)(room:Int)(h:0<=room/\room<=1048576)(hf:(TWire:Ty).fits x)(u:Unit):Ret (F_16 N (x,room,u)) (fun r=>r.1<=room/\(0<=r.1->((x.1.length<4000000)/\(x.2.1.length<4000000)/\(x.2.2.1.length<4000000)/\(x.2.2.2.1.length<4000000))/\(q152 x:Int)<=0+32 * (room - r.1))):=by
 have hm:=q33;unfold F_16;dsimp only;have hf0:=hf.1;refine Ret.bind (q107 hN x.1 room ⟨by omega,by omega⟩ hf0 ()) ?_;rintro ⟨r0,v0⟩ ⟨a0,b0⟩;dsimp only at a0 b0 |-;refine rf ?_ ?_ <;> intro g0
 .exact rb ⟨by show (-1:Int)<=room; omega,fun h=>absurd h (by decide)⟩
 have hf1:=hf.2.1;refine Ret.bind (q107 hN x.2.1 r0 ⟨by omega,by omega⟩ hf1 ()) ?_;rintro ⟨r1,v1⟩ ⟨a1,b1⟩;dsimp only at a1 b1 |-;refine rf ?_ ?_ <;> intro g1
 .exact rb ⟨by show (-1:Int)<=room; omega,fun h=>absurd h (by decide)⟩
 have hf2:=hf.2.2.1;refine Ret.bind (q107 hN x.2.2.1 r1 ⟨by omega,by omega⟩ hf2 ()) ?_;rintro ⟨r2,v2⟩ ⟨a2,b2⟩;dsimp only at a2 b2 |-;refine rf ?_ ?_ <;> intro g2
 .exact rb ⟨by show (-1:Int)<=room; omega,fun h=>absurd h (by decide)⟩
 have hf3:=hf.2.2.2.1;refine Ret.bind (q107 hN x.2.2.2.1 r2 ⟨by omega,by omega⟩ hf3 ()) ?_;rintro ⟨r3,v3⟩ ⟨a3,b3⟩;dsimp only at a3 b3 |-;refine rf ?_ ?_ <;> intro g3
 .exact rb ⟨by show (-1:Int)<=room; omega,fun h=>absurd h (by decide)⟩
 have c0:=(b0 (by omega)).2;have c1:=(b1 (by omega)).2;have c2:=(b2 (by omega)).2;have c3:=(b3 (by omega)).2;exact rb ⟨by show r3<=room; omega,fun _=>⟨⟨(b0 (by omega)).1,(b1 (by omega)).1,(b2 (by omega)).1,(b3 (by omega)).1⟩,by simp only[q152]; show _<=0+32 * (room - r3); omega⟩⟩
theorem q857{N:Nat}(hN:HN N)(x:List DWire)(room:Int)(h:0<=room/\room<=1048576)(hf:((.slice TWire):Ty).fits x)(u:Unit):Ret (F_17 N (x,room,u)) (fun r=>r.1<=room/\(0<=r.1->(x.length<4000000/\∀ e0∈x,(e0.1.length<4000000)/\(e0.2.1.length<4000000)/\(e0.2.2.1.length<4000000)/\(e0.2.2.2.1.length<4000000))/\(q172 x:Int)<=32 * (room - r.1))):=by
 have hm:=q33;unfold F_17;have hl:=hf.1;dsimp only;rw[wrapI (n:=room - (x.length:Int)) (by omega) (by omega)];refine rf ?_ ?_ <;> intro h1
 .exact rb ⟨by show (-1:Int)<=room; omega,fun h=>absurd h (by decide)⟩
 refine ry 0 x.length (fun i r _=>0<=r/\r<=room - (x.length:Int)/\(∀ j,j<i->∀ h:j<x.length,(x[j].1.length<4000000)/\(x[j].2.1.length<4000000)/\(x[j].2.2.1.length<4000000)/\(x[j].2.2.2.1.length<4000000))/\((((x.take i).map fun e=>q152 e).sum:Nat):Int)<=32 * (i:Int)+32 * (room - (x.length:Int) - r)) (by omega) (by omega) (by omega) ⟨by omega,by omega,q20,by simp⟩ ?_ ?_
 .rintro i r t next _ hi ⟨hr0,hr,hI,hS⟩ hn
  have hfi:=hf.2 _ (aR hi);have hts:=q44 (fun e=>q152 e) hi;dsimp only at hts |-;refine re ?_ ?_
  .omega
  refine rc hi (Ret.bind (q882 hN x[i] r ⟨hr0,by omega⟩ hfi ()) ?_);rintro ⟨r2,v⟩ ⟨h2,h3⟩;dsimp only at h2 h3 |-;refine rf ?_ ?_ <;> intro h4
  .exact rb ⟨by show (-1:Int)<=room; omega,fun h=>absurd h (by decide)⟩
  .obtain ⟨h5,h6⟩:=h3 (by omega);exact hn _ _ ⟨by omega,by omega,q12 hI fun _=>h5,by rw[hts]; omega⟩
 .rintro r t next ⟨hr0,hr,hI,hS⟩
  rw[aP] at hS;dsimp only;refine rd ?_ (rb ⟨by show r<=room; omega,fun _=>⟨⟨by omega,q11.2 fun j hj=>hI j hj hj⟩,?_⟩⟩)
  .omega
  .unfold q172; show _<=32 * (room - r); omega
theorem q834{N:Nat}(hN:HN N)(x:DBlock)(room:Int)(h:0<=room/\room<=1048576)(hf:(TBlock:Ty).fits x)(u:Unit):Ret (F_18 N (x,room,u)) (fun r=>r.1<=room/\(0<=r.1->(((x.1.1.length<4000000/\∀ e0∈x.1.1,(e0.1.size<4000000)/\(e0.2.2.1.length<4000000/\∀ e1∈e0.2.2.1,(e1.1.size<4000000))/\(e0.2.2.2.1.length<4000000/\∀ e1∈e0.2.2.2.1,(e1.2.2.2.2.1.length<4000000/\∀ e2∈e1.2.2.2.2.1,(e2.1.length<4000000)/\(e2.2.1.length<4000000)/\(e2.2.2.1.length<4000000))/\(e1.2.2.2.2.2.1.length<4000000/\∀ e2∈e1.2.2.2.2.2.1,(e2.1.length<4000000)/\(e2.2.1.length<4000000)/\(e2.2.2.1.length<4000000)))/\(e0.2.2.2.2.1.length<4000000)))/\((x.2.1.1.length<4000000/\∀ e0∈x.2.1.1,(e0.1.size<4000000)/\(e0.2.2.1.length<4000000))/\(x.2.1.2.1.length<4000000/\∀ e0∈x.2.1.2.1,e0.size<4000000)/\(x.2.1.2.2.1.length<4000000/\∀ e0∈x.2.1.2.2.1,(e0.1.size<4000000)))/\(x.2.2.1.length<4000000/\∀ e0∈x.2.2.1,(e0.1.length<4000000)/\(e0.2.1.length<4000000)/\(e0.2.2.1.length<4000000)/\(e0.2.2.2.1.length<4000000)))/\(q312 x:Int)<=0+32 * (room - r.1))):=by
 have hm:=q33;unfold F_18;dsimp only;have hf0:=hf.1;refine Ret.bind (q716 hN x.1 room ⟨by omega,by omega⟩ hf0 ()) ?_;rintro ⟨r0,v0⟩ ⟨a0,b0⟩;dsimp only at a0 b0 |-;refine rf ?_ ?_ <;> intro g0
 .exact rb ⟨by show (-1:Int)<=room; omega,fun h=>absurd h (by decide)⟩
 have hf1:=hf.2.1;refine Ret.bind (q819 hN x.2.1 r0 ⟨by omega,by omega⟩ hf1 ()) ?_;rintro ⟨r1,v1⟩ ⟨a1,b1⟩;dsimp only at a1 b1 |-;refine rf ?_ ?_ <;> intro g1
 .exact rb ⟨by show (-1:Int)<=room; omega,fun h=>absurd h (by decide)⟩
 have hf2:=hf.2.2.1;refine Ret.bind (q857 hN x.2.2.1 r1 ⟨by omega,by omega⟩ hf2 ()) ?_;rintro ⟨r2,v2⟩ ⟨a2,b2⟩;dsimp only at a2 b2 |-;refine rf ?_ ?_ <;> intro g2
 .exact rb ⟨by show (-1:Int)<=room; omega,fun h=>absurd h (by decide)⟩
 have c0:=(b0 (by omega)).2;have c1:=(b1 (by omega)).2;have c2:=(b2 (by omega)).2;exact rb ⟨by show r2<=room; omega,fun _=>⟨⟨(b0 (by omega)).1,(b1 (by omega)).1,(b2 (by omega)).1⟩,by simp only[q312]; show _<=0+32 * (room - r2); omega⟩⟩
theorem q768{N:Nat}(hN:HN N)(x:DCorner)(room:Int)(h:0<=room/\room<=1048576)(hf:(TCorner:Ty).fits x)(u:Unit):Ret (F_19 N (x,room,u)) (fun r=>r.1<=room/\(0<=r.1->((x.1.size<4000000))/\(q102 x:Int)<=5+32 * (room - r.1))):=by
 have hm:=q33;unfold F_19;dsimp only;have hf0:=hf.1;rw[wrapI (n:=room - (x.1.size:Int)) (by omega) (by omega)];refine rf ?_ ?_ <;> intro g0
 .exact rb ⟨by show (-1:Int)<=room; omega,fun h=>absurd h (by decide)⟩
 exact rb ⟨by show (room - (x.1.size:Int))<=room; omega,fun _=>⟨(by omega),by simp only[q102]; show _<=5+32 * (room - (room - (x.1.size:Int))); omega⟩⟩
theorem q721{N:Nat}(hN:HN N)(x:List DCorner)(room:Int)(h:0<=room/\room<=1048576)(hf:((.slice TCorner):Ty).fits x)(u:Unit):Ret (F_20 N (x,room,u)) (fun r=>r.1<=room/\(0<=r.1->(x.length<4000000/\∀ e0∈x,(e0.1.size<4000000))/\(q181 x:Int)<=32 * (room - r.1))):=by
 have hm:=q33;unfold F_20;have hl:=hf.1;dsimp only;rw[wrapI (n:=room - (x.length:Int)) (by omega) (by omega)];refine rf ?_ ?_ <;> intro h1
 .exact rb ⟨by show (-1:Int)<=room; omega,fun h=>absurd h (by decide)⟩
 refine ry 0 x.length (fun i r _=>0<=r/\r<=room - (x.length:Int)/\(∀ j,j<i->∀ h:j<x.length,(x[j].1.size<4000000))/\((((x.take i).map fun e=>q102 e).sum:Nat):Int)<=32 * (i:Int)+32 * (room - (x.length:Int) - r)) (by omega) (by omega) (by omega) ⟨by omega,by omega,q20,by simp⟩ ?_ ?_
 .rintro i r t next _ hi ⟨hr0,hr,hI,hS⟩ hn
  have hfi:=hf.2 _ (aR hi);have hts:=q44 (fun e=>q102 e) hi;dsimp only at hts |-;refine re ?_ ?_
  .omega
  refine rc hi (Ret.bind (q768 hN x[i] r ⟨hr0,by omega⟩ hfi ()) ?_);rintro ⟨r2,v⟩ ⟨h2,h3⟩;dsimp only at h2 h3 |-;refine rf ?_ ?_ <;> intro h4
  .exact rb ⟨by show (-1:Int)<=room; omega,fun h=>absurd h (by decide)⟩
  .obtain ⟨h5,h6⟩:=h3 (by omega);exact hn _ _ ⟨by omega,by omega,q12 hI fun _=>h5,by rw[hts]; omega⟩
 .rintro r t next ⟨hr0,hr,hI,hS⟩
  rw[aP] at hS;dsimp only;refine rd ?_ (rb ⟨by show r<=room; omega,fun _=>⟨⟨by omega,q11.2 fun j hj=>hI j hj hj⟩,?_⟩⟩)
  .omega
  .unfold q181; show _<=32 * (room - r); omega
theorem q705{N:Nat}(hN:HN N)(x:List DSource)(room:Int)(h:0<=room/\room<=1048576)(hf:((.slice TSource):Ty).fits x)(u:Unit):Ret (F_21 N (x,room,u)) (fun r=>r.1<=room/\(0<=r.1->(x.length<4000000)/\(q135 x:Int)<=32 * (room - r.1))):=by
 have hm:=q33;unfold F_21;have hl:=hf.1;dsimp only;rw[wrapI (n:=room - (x.length:Int)) (by omega) (by omega)];refine rf ?_ ?_ <;> intro h1
 .exact rb ⟨by show (-1:Int)<=room; omega,fun h=>absurd h (by decide)⟩
 .have hc:q135 x<=32 * x.length:=by unfold q135;refine q441 (fun e _=>?_);simp only[q164,q154,q154]; omega
  exact rb ⟨by show room - (x.length:Int)<=room; omega,fun _=>⟨by omega,by show _<=32 * (room - (room - (x.length:Int))); omega⟩⟩
theorem q889{N:Nat}(hN:1000000000000<=N)(x:List DPin)(hs:x.length<4000000/\∀ e0∈x,(e0.1.size<4000000))(k:Int)(h0:0<=k)(hb:k+(q304 x:Nat)<=100000000000):F_252 N x k=some (k+(q304 x:Nat)):=by
 unfold F_252;have hlen:x.length<4000000:=hs.1;refine q83 (fun e=>q212 e) hN h0 hb hlen ?_ ?_
 .intro i hi m next hm hmb hn
  have hse:=hs.2 _ (aR hi);simp only[q212] at hmb;dsimp only[nth];refine re (by omega) ?_;refine vb hN (by (try simp (disch:=omega) only [wrapI]); omega) fun _=>?_;refine rc hi ?_;refine rc hi ?_;refine rc hi ?_;refine rc hi ?_;refine va hn ?_
  (try simp (disch:=omega) only [wrapI])
  simp only[q212];omega
 .intro m next
  dsimp only[nth];exact Ret.eq (rd (by omega) (rb rfl))
theorem q94{N:Nat}(hN:1000000000000<=N)(x:List (Int))(hs:x.length<4000000)(k:Int)(h0:0<=k)(hb:k+(q38 x:Nat)<=100000000000):F_253 N x k=some (k+(q38 x:Nat)):=by
 unfold F_253;have hlen:x.length<4000000:=hs;refine q83 (fun e=>1) hN h0 hb hlen ?_ ?_
 .intro i hi m next hm hmb hn
  (try dsimp only at hmb)
  dsimp only[nth];refine re (by omega) ?_;refine rc hi ?_;refine va hn ?_
  (try simp (disch:=omega) only [wrapI])
  omega
 .intro m next
  dsimp only[nth];exact Ret.eq (rd (by omega) (rb rfl))
theorem q585{N:Nat}(hN:1000000000000<=N)(x:List DTable)(hs:x.length<4000000/\∀ e0∈x,(e0.1.length<4000000)/\(e0.2.1.length<4000000)/\(e0.2.2.1.length<4000000))(k:Int)(h0:0<=k)(hb:k+(q130 x:Nat)<=100000000000):F_254 N x k=some (k+(q130 x:Nat)):=by
 unfold F_254;have hlen:x.length<4000000:=hs.1;refine q83 (fun e=>q122 e) hN h0 hb hlen ?_ ?_
 .intro i hi m next hm hmb hn
  have hse:=hs.2 _ (aR hi);simp only[q122] at hmb;dsimp only[nth];refine re (by omega) ?_;refine rc hi ?_;refine ra (q94 hN _ (hse.1) _ (by (try simp (disch:=omega) only [wrapI]); omega) (by (try simp (disch:=omega) only [wrapI]); omega)) ?_;refine rc hi ?_;refine ra (q94 hN _ (hse.2.1) _ (by (try simp (disch:=omega) only [wrapI]); omega) (by (try simp (disch:=omega) only [wrapI]); omega)) ?_;refine rc hi ?_;refine ra (q94 hN _ (hse.2.2) _ (by (try simp (disch:=omega) only [wrapI]); omega) (by (try simp (disch:=omega) only [wrapI]); omega)) ?_;refine va hn ?_
  (try simp (disch:=omega) only [wrapI])
  simp only[q122];omega
 .intro m next
  dsimp only[nth];exact Ret.eq (rd (by omega) (rb rfl))
theorem q893{N:Nat}(hN:1000000000000<=N)(x:List DArc)(hs:x.length<4000000/\∀ e0∈x,(e0.2.2.2.2.1.length<4000000/\∀ e1∈e0.2.2.2.2.1,(e1.1.length<4000000)/\(e1.2.1.length<4000000)/\(e1.2.2.1.length<4000000))/\(e0.2.2.2.2.2.1.length<4000000/\∀ e1∈e0.2.2.2.2.2.1,(e1.1.length<4000000)/\(e1.2.1.length<4000000)/\(e1.2.2.1.length<4000000)))(k:Int)(h0:0<=k)(hb:k+(q287 x:Nat)<=100000000000):F_255 N x k=some (k+(q287 x:Nat)):=by
 unfold F_255;have hlen:x.length<4000000:=hs.1;refine q83 (fun e=>q222 e) hN h0 hb hlen ?_ ?_
 .intro i hi m next hm hmb hn
  have hse:=hs.2 _ (aR hi);simp only[q222] at hmb;dsimp only[nth];refine re (by omega) ?_;refine rc hi ?_;refine rc hi ?_;refine rc hi ?_;refine rc hi ?_;refine rc hi ?_;refine ra (q585 hN _ (hse.1) _ (by (try simp (disch:=omega) only [wrapI]); omega) (by (try simp (disch:=omega) only [wrapI]); omega)) ?_;refine rc hi ?_;refine ra (q585 hN _ (hse.2) _ (by (try simp (disch:=omega) only [wrapI]); omega) (by (try simp (disch:=omega) only [wrapI]); omega)) ?_;refine va hn ?_
  (try simp (disch:=omega) only [wrapI])
  simp only[q222];omega
 .intro m next
  dsimp only[nth];exact Ret.eq (rd (by omega) (rb rfl))
theorem q835{N:Nat}(hN:1000000000000<=N)(x:List DCell)(hs:x.length<4000000/\∀ e0∈x,(e0.1.size<4000000)/\(e0.2.2.1.length<4000000/\∀ e1∈e0.2.2.1,(e1.1.size<4000000))/\(e0.2.2.2.1.length<4000000/\∀ e1∈e0.2.2.2.1,(e1.2.2.2.2.1.length<4000000/\∀ e2∈e1.2.2.2.2.1,(e2.1.length<4000000)/\(e2.2.1.length<4000000)/\(e2.2.2.1.length<4000000))/\(e1.2.2.2.2.2.1.length<4000000/\∀ e2∈e1.2.2.2.2.2.1,(e2.1.length<4000000)/\(e2.2.1.length<4000000)/\(e2.2.2.1.length<4000000)))/\(e0.2.2.2.2.1.length<4000000))(k:Int)(h0:0<=k)(hb:k+(q171 x:Nat)<=100000000000):F_256 N x k=some (k+(q171 x:Nat)):=by
 unfold F_256;have hlen:x.length<4000000:=hs.1;refine q83 (fun e=>q155 e) hN h0 hb hlen ?_ ?_
 .intro i hi m next hm hmb hn
  have hse:=hs.2 _ (aR hi);simp only[q155] at hmb;dsimp only[nth];refine re (by omega) ?_;refine vb hN (by (try simp (disch:=omega) only [wrapI]); omega) fun _=>?_;refine rc hi ?_;refine rc hi ?_;refine rc hi ?_;refine ra (q889 hN _ (hse.2.1) _ (by (try simp (disch:=omega) only [wrapI]); omega) (by (try simp (disch:=omega) only [wrapI]); omega)) ?_;refine rc hi ?_;refine ra (q893 hN _ (hse.2.2.1) _ (by (try simp (disch:=omega) only [wrapI]); omega) (by (try simp (disch:=omega) only [wrapI]); omega)) ?_;refine rc hi ?_;refine ra (q94 hN _ (hse.2.2.2) _ (by (try simp (disch:=omega) only [wrapI]); omega) (by (try simp (disch:=omega) only [wrapI]); omega)) ?_;refine rc hi ?_;refine rc hi ?_;refine va hn ?_
  (try simp (disch:=omega) only [wrapI])
  simp only[q155];omega
 .intro m next
  dsimp only[nth];exact Ret.eq (rd (by omega) (rb rfl))
theorem q703{N:Nat}(hN:1000000000000<=N)(x:DLibrary)(hs:(x.1.length<4000000/\∀ e0∈x.1,(e0.1.size<4000000)/\(e0.2.2.1.length<4000000/\∀ e1∈e0.2.2.1,(e1.1.size<4000000))/\(e0.2.2.2.1.length<4000000/\∀ e1∈e0.2.2.2.1,(e1.2.2.2.2.1.length<4000000/\∀ e2∈e1.2.2.2.2.1,(e2.1.length<4000000)/\(e2.2.1.length<4000000)/\(e2.2.2.1.length<4000000))/\(e1.2.2.2.2.2.1.length<4000000/\∀ e2∈e1.2.2.2.2.2.1,(e2.1.length<4000000)/\(e2.2.1.length<4000000)/\(e2.2.2.1.length<4000000)))/\(e0.2.2.2.2.1.length<4000000)))(k:Int)(h0:0<=k)(hb:k+(q112 x:Nat)<=100000000000):F_257 N x k=some (k+(q112 x:Nat)):=by unfold F_257;unfold q112 at hb |-;refine Ret.eq ?_;refine ra (q835 hN _ (hs) _ (by omega) (by omega)) ?_;exact rb (by omega)
theorem q557{N:Nat}(hN:1000000000000<=N)(x:List DInstance)(hs:x.length<4000000/\∀ e0∈x,(e0.1.size<4000000)/\(e0.2.2.1.length<4000000))(k:Int)(h0:0<=k)(hb:k+(q85 x:Nat)<=100000000000):F_258 N x k=some (k+(q85 x:Nat)):=by
 unfold F_258;have hlen:x.length<4000000:=hs.1;refine q83 (fun e=>q68 e) hN h0 hb hlen ?_ ?_
 .intro i hi m next hm hmb hn
  have hse:=hs.2 _ (aR hi);simp only[q68] at hmb;dsimp only[nth];refine re (by omega) ?_;refine vb hN (by (try simp (disch:=omega) only [wrapI]); omega) fun _=>?_;refine rc hi ?_;refine rc hi ?_;refine rc hi ?_;refine ra (q94 hN _ (hse.2) _ (by (try simp (disch:=omega) only [wrapI]); omega) (by (try simp (disch:=omega) only [wrapI]); omega)) ?_;refine va hn ?_
  (try simp (disch:=omega) only [wrapI])
  simp only[q68];omega
 .intro m next
  dsimp only[nth];exact Ret.eq (rd (by omega) (rb rfl))
theorem q720{N:Nat}(hN:1000000000000<=N)(x:List (ByteArray))(hs:x.length<4000000/\∀ e0∈x,e0.size<4000000)(k:Int)(h0:0<=k)(hb:k+(q113 x:Nat)<=100000000000):F_259 N x k=some (k+(q113 x:Nat)):=by
 unfold F_259;have hlen:x.length<4000000:=hs.1;refine q83 (fun e=>1) hN h0 hb hlen ?_ ?_
 .intro i hi m next hm hmb hn
  (try dsimp only at hmb)
  dsimp only[nth];refine re (by omega) ?_;refine vb hN (by (try simp (disch:=omega) only [wrapI]); omega) fun _=>?_;refine rc hi ?_;refine va hn ?_
  (try simp (disch:=omega) only [wrapI])
  omega
 .intro m next
  dsimp only[nth];exact Ret.eq (rd (by omega) (rb rfl))
theorem q867{N:Nat}(hN:1000000000000<=N)(x:List DPort)(hs:x.length<4000000/\∀ e0∈x,(e0.1.size<4000000))(k:Int)(h0:0<=k)(hb:k+(q169 x:Nat)<=100000000000):F_260 N x k=some (k+(q169 x:Nat)):=by
 unfold F_260;have hlen:x.length<4000000:=hs.1;refine q83 (fun e=>q151 e) hN h0 hb hlen ?_ ?_
 .intro i hi m next hm hmb hn
  have hse:=hs.2 _ (aR hi);simp only[q151] at hmb;dsimp only[nth];refine re (by omega) ?_;refine vb hN (by (try simp (disch:=omega) only [wrapI]); omega) fun _=>?_;refine rc hi ?_;refine rc hi ?_;refine rc hi ?_;refine va hn ?_
  (try simp (disch:=omega) only [wrapI])
  simp only[q151];omega
 .intro m next
  dsimp only[nth];exact Ret.eq (rd (by omega) (rb rfl))
theorem q777{N:Nat}(hN:1000000000000<=N)(x:DDesign)(hs:(x.1.length<4000000/\∀ e0∈x.1,(e0.1.size<4000000)/\(e0.2.2.1.length<4000000))/\(x.2.1.length<4000000/\∀ e0∈x.2.1,e0.size<4000000)/\(x.2.2.1.length<4000000/\∀ e0∈x.2.2.1,(e0.1.size<4000000)))(k:Int)(h0:0<=k)(hb:k+(q133 x:Nat)<=100000000000):F_261 N x k=some (k+(q133 x:Nat)):=by unfold F_261;unfold q133 at hb |-;refine Ret.eq ?_;refine ra (q557 hN _ (hs.1) _ (by omega) (by omega)) ?_;refine ra (q720 hN _ (hs.2.1) _ (by omega) (by omega)) ?_;refine ra (q867 hN _ (hs.2.2) _ (by omega) (by omega)) ?_;exact rb (by omega)
theorem q842{N:Nat}(hN:1000000000000<=N)(x:List DWire)(hs:x.length<4000000/\∀ e0∈x,(e0.1.length<4000000)/\(e0.2.1.length<4000000)/\(e0.2.2.1.length<4000000)/\(e0.2.2.2.1.length<4000000))(k:Int)(h0:0<=k)(hb:k+(q172 x:Nat)<=100000000000):F_262 N x k=some (k+(q172 x:Nat)):=by
 unfold F_262;have hlen:x.length<4000000:=hs.1;refine q83 (fun e=>q152 e) hN h0 hb hlen ?_ ?_
 .intro i hi m next hm hmb hn
  have hse:=hs.2 _ (aR hi);simp only[q152] at hmb;dsimp only[nth];refine re (by omega) ?_;refine rc hi ?_;refine ra (q94 hN _ (hse.1) _ (by (try simp (disch:=omega) only [wrapI]); omega) (by (try simp (disch:=omega) only [wrapI]); omega)) ?_;refine rc hi ?_;refine ra (q94 hN _ (hse.2.1) _ (by (try simp (disch:=omega) only [wrapI]); omega) (by (try simp (disch:=omega) only [wrapI]); omega)) ?_;refine rc hi ?_;refine ra (q94 hN _ (hse.2.2.1) _ (by (try simp (disch:=omega) only [wrapI]); omega) (by (try simp (disch:=omega) only [wrapI]); omega)) ?_;refine rc hi ?_;refine ra (q94 hN _ (hse.2.2.2) _ (by (try simp (disch:=omega) only [wrapI]); omega) (by (try simp (disch:=omega) only [wrapI]); omega)) ?_;refine va hn ?_
  (try simp (disch:=omega) only [wrapI])
  simp only[q152];omega
 .intro m next
  dsimp only[nth];exact Ret.eq (rd (by omega) (rb rfl))
theorem q825{N:Nat}(hN:1000000000000<=N)(x:DBlock)(hs:((x.1.1.length<4000000/\∀ e0∈x.1.1,(e0.1.size<4000000)/\(e0.2.2.1.length<4000000/\∀ e1∈e0.2.2.1,(e1.1.size<4000000))/\(e0.2.2.2.1.length<4000000/\∀ e1∈e0.2.2.2.1,(e1.2.2.2.2.1.length<4000000/\∀ e2∈e1.2.2.2.2.1,(e2.1.length<4000000)/\(e2.2.1.length<4000000)/\(e2.2.2.1.length<4000000))/\(e1.2.2.2.2.2.1.length<4000000/\∀ e2∈e1.2.2.2.2.2.1,(e2.1.length<4000000)/\(e2.2.1.length<4000000)/\(e2.2.2.1.length<4000000)))/\(e0.2.2.2.2.1.length<4000000)))/\((x.2.1.1.length<4000000/\∀ e0∈x.2.1.1,(e0.1.size<4000000)/\(e0.2.2.1.length<4000000))/\(x.2.1.2.1.length<4000000/\∀ e0∈x.2.1.2.1,e0.size<4000000)/\(x.2.1.2.2.1.length<4000000/\∀ e0∈x.2.1.2.2.1,(e0.1.size<4000000)))/\(x.2.2.1.length<4000000/\∀ e0∈x.2.2.1,(e0.1.length<4000000)/\(e0.2.1.length<4000000)/\(e0.2.2.1.length<4000000)/\(e0.2.2.2.1.length<4000000)))(k:Int)(h0:0<=k)(hb:k+(q233 x:Nat)<=100000000000):F_263 N x k=some (k+(q233 x:Nat)):=by unfold F_263;unfold q233 at hb |-;refine Ret.eq ?_;refine ra (q703 hN _ (hs.1) _ (by omega) (by omega)) ?_;refine ra (q777 hN _ (hs.2.1) _ (by omega) (by omega)) ?_;refine ra (q842 hN _ (hs.2.2) _ (by omega) (by omega)) ?_;exact rb (by omega)
theorem q698{N:Nat}(hN:1000000000000<=N)(x:List DCorner)(hs:x.length<4000000/\∀ e0∈x,(e0.1.size<4000000))(k:Int)(h0:0<=k)(hb:k+(q181 x:Nat)<=100000000000):F_264 N x k=some (k+(q181 x:Nat)):=by
 unfold F_264;have hlen:x.length<4000000:=hs.1;refine q83 (fun e=>q102 e) hN h0 hb hlen ?_ ?_
 .intro i hi m next hm hmb hn
  have hse:=hs.2 _ (aR hi);simp only[q102] at hmb;dsimp only[nth];refine re (by omega) ?_;refine vb hN (by (try simp (disch:=omega) only [wrapI]); omega) fun _=>?_;refine rc hi ?_;refine rc hi ?_;refine rc hi ?_;refine rc hi ?_;refine rc hi ?_;refine va hn ?_
  (try simp (disch:=omega) only [wrapI])
  simp only[q102];omega
 .intro m next
  dsimp only[nth];exact Ret.eq (rd (by omega) (rb rfl))
theorem q728{N:Nat}(hN:1000000000000<=N)(x:List DSource)(hs:x.length<4000000)(k:Int)(h0:0<=k)(hb:k+(q135 x:Nat)<=100000000000):F_265 N x k=some (k+(q135 x:Nat)):=by
 unfold F_265;have hlen:x.length<4000000:=hs;refine q83 (fun e=>q164 e) hN h0 hb hlen ?_ ?_
 .intro i hi m next hm hmb hn
  simp only[q164,q154,q154] at hmb;dsimp only[nth];refine re (by omega) ?_;refine rc hi ?_;refine rc hi ?_;refine rc hi ?_;refine rc hi ?_;refine rc hi ?_;refine va hn ?_
  (try simp (disch:=omega) only [wrapI])
  simp only[q164,q154,q154];omega
 .intro m next
  dsimp only[nth];exact Ret.eq (rd (by omega) (rb rfl))
end Go.Proofs.YtdgabcjahjmdoaaGreatDoor
