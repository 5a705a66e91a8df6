/- The marking functions: how much they mark. Printed by my lawgen.py. No program in sight. -/
import Derived.Test.YtlmfklfjmalanaaGreatDoorPgV
namespace Go.Proofs.YtlmfklfjmalanaaGreatDoor
set_option linter.unusedSimpArgs false
set_option linter.unusedVariables false
def q239(x:DPin):Nat:=1+1+1+1
def q324(x:List DPin):Nat:=(x.map fun e=>q239 e).sum
def q43(x:List (Int)):Nat:=(x.map fun e=>1).sum
def q133(x:DTable):Nat:=q43 x.1+q43 x.2.1+q43 x.2.2.1
def q144(x:List DTable):Nat:=(x.map fun e=>q133 e).sum
def q231(x:DArc):Nat:=1+1+1+1+q144 x.2.2.2.2.1+q144 x.2.2.2.2.2.1
def q331(x:List DArc):Nat:=(x.map fun e=>q231 e).sum
def q166(x:DCell):Nat:=1+1+q324 x.2.2.1+q331 x.2.2.2.1+q43 x.2.2.2.2.1+1+1
def q186(x:List DCell):Nat:=(x.map fun e=>q166 e).sum
def q154(x:DLibrary):Nat:=q186 x.1
def q120(x:DLibrary):Nat:=q186 x.1
theorem q758(x:DLibrary):q120 x<=q154 x:=by unfold q120 q154;omega
def q69(x:DInstance):Nat:=1+1+q43 x.2.2.1
def q90(x:List DInstance):Nat:=(x.map fun e=>q69 e).sum
def q127(x:List (ByteArray)):Nat:=(x.map fun e=>1).sum
def q168(x:DPort):Nat:=1+1+1
def q196(x:List DPort):Nat:=(x.map fun e=>q168 e).sum
def q198(x:DDesign):Nat:=q90 x.1+q127 x.2.1+q196 x.2.2.1
def q151(x:DDesign):Nat:=q90 x.1+q127 x.2.1+q196 x.2.2.1
theorem q833(x:DDesign):q151 x<=q198 x:=by unfold q151 q198;omega
def q172(x:DWire):Nat:=q43 x.1+q43 x.2.1+q43 x.2.2.1+q43 x.2.2.2.1
def q187(x:List DWire):Nat:=(x.map fun e=>q172 e).sum
def q225(x:DBlock):Nat:=q154 x.1+q198 x.2.1+q187 x.2.2.1
def q192(x:DBlock):Nat:=q120 x.1+q151 x.2.1+q187 x.2.2.1
theorem q897(x:DBlock):q192 x<=q225 x:=by have h0:=q758 x.1;have h1:=q833 x.2.1;unfold q192 q225;omega
def q171(x:DSpan):Nat:=1+1
def q191(x:DSource):Nat:=1+q171 x.2.1+q171 x.2.2.1
def q109(x:List DSource):Nat:=(x.map fun e=>q191 e).sum
def q379(x:DCorner):Nat:=1+1+1+1+1
def q556(x:DJob):Nat:=q225 x.1+q379 x.2.1+q43 x.2.2.1+q109 x.2.2.2.1
def q449(x:DJob):Nat:=q192 x.1+q43 x.2.2.1+q109 x.2.2.2.1
theorem ce_Job(x:DJob):q449 x<=q556 x:=by have h0:=q897 x.1;unfold q449 q556;omega
theorem sc_Pin{N:Nat}(hN:HN N)(x:DPin)(room:Int)(h:0<=room/\room<=1048576)(hf:(TPin:Ty).fits x)(u:Unit):Ret (F_0 N (x,room,u)) (fun r=>r.1<=room/\(0<=r.1->((x.1.size<4000000))/\(q239 x:Int)<=4+32 * (room - r.1))):=by
 have hm:=q30;unfold F_0;dsimp only;have hf0:=hf.1;rw[wrapI (n:=room - (x.1.size:Int)) (by omega) (by omega)];refine rg ?_ ?_ <;> intro g0
 .exact rb ⟨by show (-1:Int)<=room; omega,fun h=>absurd h (by decide)⟩
 exact rb ⟨by show (room - (x.1.size:Int))<=room; omega,fun _=>⟨(by omega),by simp only[q239]; show _<=4+32 * (room - (room - (x.1.size:Int))); omega⟩⟩
theorem q936{N:Nat}(hN:HN N)(x:List DPin)(room:Int)(h:0<=room/\room<=1048576)(hf:((.slice TPin):Ty).fits x)(u:Unit):Ret (F_1 N (x,room,u)) (fun r=>r.1<=room/\(0<=r.1->(x.length<4000000/\∀ e0∈x,(e0.1.size<4000000))/\(q324 x:Int)<=32 * (room - r.1))):=by
 have hm:=q30;unfold F_1;have hl:=hf.1;dsimp only;rw[wrapI (n:=room - (x.length:Int)) (by omega) (by omega)];refine rg ?_ ?_ <;> intro h1
 .exact rb ⟨by show (-1:Int)<=room; omega,fun h=>absurd h (by decide)⟩
 refine rz 0 x.length (fun i r _=>0<=r/\r<=room - (x.length:Int)/\(∀ j,j<i->∀ h:j<x.length,(x[j].1.size<4000000))/\((((x.take i).map fun e=>q239 e).sum:Nat):Int)<=32 * (i:Int)+32 * (room - (x.length:Int) - r)) (by omega) (by omega) (by omega) ⟨by omega,by omega,q20,by simp⟩ ?_ ?_
 .rintro i r t next _ hi ⟨hr0,hr,hI,hS⟩ hn
  have hfi:=hf.2 _ (aR hi);have hts:=q51 (fun e=>q239 e) hi;dsimp only at hts |-;refine re ?_ ?_
  .omega
  refine rc hi (Ret.bind (sc_Pin hN x[i] r ⟨hr0,by omega⟩ hfi ()) ?_);rintro ⟨r2,v⟩ ⟨h2,h3⟩;dsimp only at h2 h3 |-;refine rg ?_ ?_ <;> intro h4
  .exact rb ⟨by show (-1:Int)<=room; omega,fun h=>absurd h (by decide)⟩
  .obtain ⟨h5,h6⟩:=h3 (by omega);exact hn _ _ ⟨by omega,by omega,q12 hI fun _=>h5,by rw[hts]; omega⟩
 .rintro r t next ⟨hr0,hr,hI,hS⟩
  rw[aP] at hS;dsimp only;refine rd ?_ (rb ⟨by show r<=room; omega,fun _=>⟨⟨by omega,q13.2 fun j hj=>hI j hj hj⟩,?_⟩⟩)
  .omega
  .unfold q324; show _<=32 * (room - r); omega
theorem q95{N:Nat}(hN:HN N)(x:List (Int))(room:Int)(h:0<=room/\room<=1048576)(hf:((.slice (.int .i64)):Ty).fits x)(u:Unit):Ret (F_2 N (x,room,u)) (fun r=>r.1<=room/\(0<=r.1->(x.length<4000000)/\(q43 x:Int)<=32 * (room - r.1))):=by
 have hm:=q30;unfold F_2;have hl:=hf.1;dsimp only;rw[wrapI (n:=room - (x.length:Int)) (by omega) (by omega)];refine rg ?_ ?_ <;> intro h1
 .exact rb ⟨by show (-1:Int)<=room; omega,fun h=>absurd h (by decide)⟩
 .have hc:q43 x<=32 * x.length:=by unfold q43;refine q514 (fun e _=>?_);omega
  exact rb ⟨by show room - (x.length:Int)<=room; omega,fun _=>⟨by omega,by show _<=32 * (room - (room - (x.length:Int))); omega⟩⟩
theorem q889{N:Nat}(hN:HN N)(x:DTable)(room:Int)(h:0<=room/\room<=1048576)(hf:(TTable:Ty).fits x)(u:Unit):Ret (F_3 N (x,room,u)) (fun r=>r.1<=room/\(0<=r.1->((x.1.length<4000000)/\(x.2.1.length<4000000)/\(x.2.2.1.length<4000000))/\(q133 x:Int)<=0+32 * (room - r.1))):=by
 have hm:=q30;unfold F_3;dsimp only;have hf0:=hf.1;refine Ret.bind (q95 hN x.1 room ⟨by omega,by omega⟩ hf0 ()) ?_;rintro ⟨r0,v0⟩ ⟨a0,b0⟩;dsimp only at a0 b0 |-;refine rg ?_ ?_ <;> intro g0
 .exact rb ⟨by show (-1:Int)<=room; omega,fun h=>absurd h (by decide)⟩
 have hf1:=hf.2.1;refine Ret.bind (q95 hN x.2.1 r0 ⟨by omega,by omega⟩ hf1 ()) ?_;rintro ⟨r1,v1⟩ ⟨a1,b1⟩;dsimp only at a1 b1 |-;refine rg ?_ ?_ <;> intro g1
 .exact rb ⟨by show (-1:Int)<=room; omega,fun h=>absurd h (by decide)⟩
 have hf2:=hf.2.2.1;refine Ret.bind (q95 hN x.2.2.1 r1 ⟨by omega,by omega⟩ hf2 ()) ?_;rintro ⟨r2,v2⟩ ⟨a2,b2⟩;dsimp only at a2 b2 |-;refine rg ?_ ?_ <;> intro g2
 .exact rb ⟨by show (-1:Int)<=room; omega,fun h=>absurd h (by decide)⟩
 have c0:=(b0 (by omega)).2;have c1:=(b1 (by omega)).2;have c2:=(b2 (by omega)).2;exact rb ⟨by show r2<=room; omega,fun _=>⟨⟨(b0 (by omega)).1,(b1 (by omega)).1,(b2 (by omega)).1⟩,by simp only[q133]; show _<=0+32 * (room - r2); omega⟩⟩
theorem q632{N:Nat}(hN:HN N)(x:List DTable)(room:Int)(h:0<=room/\room<=1048576)(hf:((.slice TTable):Ty).fits x)(u:Unit):Ret (F_4 N (x,room,u)) (fun r=>r.1<=room/\(0<=r.1->(x.length<4000000/\∀ e0∈x,(e0.1.length<4000000)/\(e0.2.1.length<4000000)/\(e0.2.2.1.length<4000000))/\(q144 x:Int)<=32 * (room - r.1))):=by
 have hm:=q30;unfold F_4;have hl:=hf.1;dsimp only;rw[wrapI (n:=room - (x.length:Int)) (by omega) (by omega)];refine rg ?_ ?_ <;> intro h1
 .exact rb ⟨by show (-1:Int)<=room; omega,fun h=>absurd h (by decide)⟩
 refine rz 0 x.length (fun i r _=>0<=r/\r<=room - (x.length:Int)/\(∀ j,j<i->∀ h:j<x.length,(x[j].1.length<4000000)/\(x[j].2.1.length<4000000)/\(x[j].2.2.1.length<4000000))/\((((x.take i).map fun e=>q133 e).sum:Nat):Int)<=32 * (i:Int)+32 * (room - (x.length:Int) - r)) (by omega) (by omega) (by omega) ⟨by omega,by omega,q20,by simp⟩ ?_ ?_
 .rintro i r t next _ hi ⟨hr0,hr,hI,hS⟩ hn
  have hfi:=hf.2 _ (aR hi);have hts:=q51 (fun e=>q133 e) hi;dsimp only at hts |-;refine re ?_ ?_
  .omega
  refine rc hi (Ret.bind (q889 hN x[i] r ⟨hr0,by omega⟩ hfi ()) ?_);rintro ⟨r2,v⟩ ⟨h2,h3⟩;dsimp only at h2 h3 |-;refine rg ?_ ?_ <;> intro h4
  .exact rb ⟨by show (-1:Int)<=room; omega,fun h=>absurd h (by decide)⟩
  .obtain ⟨h5,h6⟩:=h3 (by omega);exact hn _ _ ⟨by omega,by omega,q12 hI fun _=>h5,by rw[hts]; omega⟩
 .rintro r t next ⟨hr0,hr,hI,hS⟩
  rw[aP] at hS;dsimp only;refine rd ?_ (rb ⟨by show r<=room; omega,fun _=>⟨⟨by omega,q13.2 fun j hj=>hI j hj hj⟩,?_⟩⟩)
  .omega
  .unfold q144; show _<=32 * (room - r); omega
theorem sc_Arc{N:Nat}(hN:HN N)(x:DArc)(room:Int)(h:0<=room/\room<=1048576)(hf:(TArc:Ty).fits x)(u:Unit):Ret (F_5 N (x,room,u)) (fun r=>r.1<=room/\(0<=r.1->((x.2.2.2.2.1.length<4000000/\∀ e0∈x.2.2.2.2.1,(e0.1.length<4000000)/\(e0.2.1.length<4000000)/\(e0.2.2.1.length<4000000))/\(x.2.2.2.2.2.1.length<4000000/\∀ e0∈x.2.2.2.2.2.1,(e0.1.length<4000000)/\(e0.2.1.length<4000000)/\(e0.2.2.1.length<4000000)))/\(q231 x:Int)<=4+32 * (room - r.1))):=by
 have hm:=q30;unfold F_5;dsimp only;have hf0:=hf.2.2.2.2.1;refine Ret.bind (q632 hN x.2.2.2.2.1 room ⟨by omega,by omega⟩ hf0 ()) ?_;rintro ⟨r0,v0⟩ ⟨a0,b0⟩;dsimp only at a0 b0 |-;refine rg ?_ ?_ <;> intro g0
 .exact rb ⟨by show (-1:Int)<=room; omega,fun h=>absurd h (by decide)⟩
 have hf1:=hf.2.2.2.2.2.1;refine Ret.bind (q632 hN x.2.2.2.2.2.1 r0 ⟨by omega,by omega⟩ hf1 ()) ?_;rintro ⟨r1,v1⟩ ⟨a1,b1⟩;dsimp only at a1 b1 |-;refine rg ?_ ?_ <;> intro g1
 .exact rb ⟨by show (-1:Int)<=room; omega,fun h=>absurd h (by decide)⟩
 have c0:=(b0 (by omega)).2;have c1:=(b1 (by omega)).2;exact rb ⟨by show r1<=room; omega,fun _=>⟨⟨(b0 (by omega)).1,(b1 (by omega)).1⟩,by simp only[q231]; show _<=4+32 * (room - r1); omega⟩⟩
theorem q929{N:Nat}(hN:HN N)(x:List DArc)(room:Int)(h:0<=room/\room<=1048576)(hf:((.slice TArc):Ty).fits x)(u:Unit):Ret (F_6 N (x,room,u)) (fun r=>r.1<=room/\(0<=r.1->(x.length<4000000/\∀ e0∈x,(e0.2.2.2.2.1.length<4000000/\∀ e1∈e0.2.2.2.2.1,(e1.1.length<4000000)/\(e1.2.1.length<4000000)/\(e1.2.2.1.length<4000000))/\(e0.2.2.2.2.2.1.length<4000000/\∀ e1∈e0.2.2.2.2.2.1,(e1.1.length<4000000)/\(e1.2.1.length<4000000)/\(e1.2.2.1.length<4000000)))/\(q331 x:Int)<=32 * (room - r.1))):=by
 have hm:=q30;unfold F_6;have hl:=hf.1;dsimp only;rw[wrapI (n:=room - (x.length:Int)) (by omega) (by omega)];refine rg ?_ ?_ <;> intro h1
 .exact rb ⟨by show (-1:Int)<=room; omega,fun h=>absurd h (by decide)⟩
 refine rz 0 x.length (fun i r _=>0<=r/\r<=room - (x.length:Int)/\(∀ j,j<i->∀ h:j<x.length,(x[j].2.2.2.2.1.length<4000000/\∀ e0∈x[j].2.2.2.2.1,(e0.1.length<4000000)/\(e0.2.1.length<4000000)/\(e0.2.2.1.length<4000000))/\(x[j].2.2.2.2.2.1.length<4000000/\∀ e0∈x[j].2.2.2.2.2.1,(e0.1.length<4000000)/\(e0.2.1.length<4000000)/\(e0.2.2.1.length<4000000)))/\((((x.take i).map fun e=>q231 e).sum:Nat):Int)<=32 * (i:Int)+32 * (room - (x.length:Int) - r)) (by omega) (by omega) (by omega) ⟨by omega,by omega,q20,by simp⟩ ?_ ?_
 .rintro i r t next _ hi ⟨hr0,hr,hI,hS⟩ hn
  have hfi:=hf.2 _ (aR hi);have hts:=q51 (fun e=>q231 e) hi;dsimp only at hts |-;refine re ?_ ?_
  .omega
  refine rc hi (Ret.bind (sc_Arc hN x[i] r ⟨hr0,by omega⟩ hfi ()) ?_);rintro ⟨r2,v⟩ ⟨h2,h3⟩;dsimp only at h2 h3 |-;refine rg ?_ ?_ <;> intro h4
  .exact rb ⟨by show (-1:Int)<=room; omega,fun h=>absurd h (by decide)⟩
  .obtain ⟨h5,h6⟩:=h3 (by omega);exact hn _ _ ⟨by omega,by omega,q12 hI fun _=>h5,by rw[hts]; omega⟩
 .rintro r t next ⟨hr0,hr,hI,hS⟩
  rw[aP] at hS;dsimp only;refine rd ?_ (rb ⟨by show r<=room; omega,fun _=>⟨⟨by omega,q13.2 fun j hj=>hI j hj hj⟩,?_⟩⟩)
  .omega
  .unfold q331; show _<=32 * (room - r); omega
theorem q947{N:Nat}(hN:HN N)(x:DCell)(room:Int)(h:0<=room/\room<=1048576)(hf:(TCell:Ty).fits x)(u:Unit):Ret (F_7 N (x,room,u)) (fun r=>r.1<=room/\(0<=r.1->((x.1.size<4000000)/\(x.2.2.1.length<4000000/\∀ e0∈x.2.2.1,(e0.1.size<4000000))/\(x.2.2.2.1.length<4000000/\∀ e0∈x.2.2.2.1,(e0.2.2.2.2.1.length<4000000/\∀ e1∈e0.2.2.2.2.1,(e1.1.length<4000000)/\(e1.2.1.length<4000000)/\(e1.2.2.1.length<4000000))/\(e0.2.2.2.2.2.1.length<4000000/\∀ e1∈e0.2.2.2.2.2.1,(e1.1.length<4000000)/\(e1.2.1.length<4000000)/\(e1.2.2.1.length<4000000)))/\(x.2.2.2.2.1.length<4000000))/\(q166 x:Int)<=4+32 * (room - r.1))):=by
 have hm:=q30;unfold F_7;dsimp only;have hf0:=hf.1;rw[wrapI (n:=room - (x.1.size:Int)) (by omega) (by omega)];refine rg ?_ ?_ <;> intro g0
 .exact rb ⟨by show (-1:Int)<=room; omega,fun h=>absurd h (by decide)⟩
 have hf1:=hf.2.2.1;refine Ret.bind (q936 hN x.2.2.1 (room - (x.1.size:Int)) ⟨by omega,by omega⟩ hf1 ()) ?_;rintro ⟨r1,v1⟩ ⟨a1,b1⟩;dsimp only at a1 b1 |-;refine rg ?_ ?_ <;> intro g1
 .exact rb ⟨by show (-1:Int)<=room; omega,fun h=>absurd h (by decide)⟩
 have hf2:=hf.2.2.2.1;refine Ret.bind (q929 hN x.2.2.2.1 r1 ⟨by omega,by omega⟩ hf2 ()) ?_;rintro ⟨r2,v2⟩ ⟨a2,b2⟩;dsimp only at a2 b2 |-;refine rg ?_ ?_ <;> intro g2
 .exact rb ⟨by show (-1:Int)<=room; omega,fun h=>absurd h (by decide)⟩
 have hf3:=hf.2.2.2.2.1;refine Ret.bind (q95 hN x.2.2.2.2.1 r2 ⟨by omega,by omega⟩ hf3 ()) ?_;rintro ⟨r3,v3⟩ ⟨a3,b3⟩;dsimp only at a3 b3 |-;refine rg ?_ ?_ <;> intro g3
 .exact rb ⟨by show (-1:Int)<=room; omega,fun h=>absurd h (by decide)⟩
 have c1:=(b1 (by omega)).2;have c2:=(b2 (by omega)).2;have c3:=(b3 (by omega)).2;exact rb ⟨by show r3<=room; omega,fun _=>⟨⟨(by omega),(b1 (by omega)).1,(b2 (by omega)).1,(b3 (by omega)).1⟩,by simp only[q166]; show _<=4+32 * (room - r3); omega⟩⟩
theorem q884{N:Nat}(hN:HN N)(x:List DCell)(room:Int)(h:0<=room/\room<=1048576)(hf:((.slice TCell):Ty).fits x)(u:Unit):Ret (F_8 N (x,room,u)) (fun r=>r.1<=room/\(0<=r.1->(x.length<4000000/\∀ e0∈x,(e0.1.size<4000000)/\(e0.2.2.1.length<4000000/\∀ e1∈e0.2.2.1,(e1.1.size<4000000))/\(e0.2.2.2.1.length<4000000/\∀ e1∈e0.2.2.2.1,(e1.2.2.2.2.1.length<4000000/\∀ e2∈e1.2.2.2.2.1,(e2.1.length<4000000)/\(e2.2.1.length<4000000)/\(e2.2.2.1.length<4000000))/\(e1.2.2.2.2.2.1.length<4000000/\∀ e2∈e1.2.2.2.2.2.1,(e2.1.length<4000000)/\(e2.2.1.length<4000000)/\(e2.2.2.1.length<4000000)))/\(e0.2.2.2.2.1.length<4000000))/\(q186 x:Int)<=32 * (room - r.1))):=by
 have hm:=q30;unfold F_8;have hl:=hf.1;dsimp only;rw[wrapI (n:=room - (x.length:Int)) (by omega) (by omega)];refine rg ?_ ?_ <;> intro h1
 .exact rb ⟨by show (-1:Int)<=room; omega,fun h=>absurd h (by decide)⟩
 refine rz 0 x.length (fun i r _=>0<=r/\r<=room - (x.length:Int)/\(∀ j,j<i->∀ h:j<x.length,(x[j].1.size<4000000)/\(x[j].2.2.1.length<4000000/\∀ e0∈x[j].2.2.1,(e0.1.size<4000000))/\(x[j].2.2.2.1.length<4000000/\∀ e0∈x[j].2.2.2.1,(e0.2.2.2.2.1.length<4000000/\∀ e1∈e0.2.2.2.2.1,(e1.1.length<4000000)/\(e1.2.1.length<4000000)/\(e1.2.2.1.length<4000000))/\(e0.2.2.2.2.2.1.length<4000000/\∀ e1∈e0.2.2.2.2.2.1,(e1.1.length<4000000)/\(e1.2.1.length<4000000)/\(e1.2.2.1.length<4000000)))/\(x[j].2.2.2.2.1.length<4000000))/\((((x.take i).map fun e=>q166 e).sum:Nat):Int)<=32 * (i:Int)+32 * (room - (x.length:Int) - r)) (by omega) (by omega) (by omega) ⟨by omega,by omega,q20,by simp⟩ ?_ ?_
 .rintro i r t next _ hi ⟨hr0,hr,hI,hS⟩ hn
  have hfi:=hf.2 _ (aR hi);have hts:=q51 (fun e=>q166 e) hi;dsimp only at hts |-;refine re ?_ ?_
  .omega
  refine rc hi (Ret.bind (q947 hN x[i] r ⟨hr0,by omega⟩ hfi ()) ?_);rintro ⟨r2,v⟩ ⟨h2,h3⟩;dsimp only at h2 h3 |-;refine rg ?_ ?_ <;> intro h4
  .exact rb ⟨by show (-1:Int)<=room; omega,fun h=>absurd h (by decide)⟩
  .obtain ⟨h5,h6⟩:=h3 (by omega);exact hn _ _ ⟨by omega,by omega,q12 hI fun _=>h5,by rw[hts]; omega⟩
 .rintro r t next ⟨hr0,hr,hI,hS⟩
  rw[aP] at hS;dsimp only;refine rd ?_ (rb ⟨by show r<=room; omega,fun _=>⟨⟨by omega,q13.2 fun j hj=>hI j hj hj⟩,?_⟩⟩)
  .omega
  .unfold q186; show _<=32 * (room - r); omega
theorem q770{N:Nat}(hN:HN N)(x:DLibrary)(room:Int)(h:0<=room/\room<=1048576)(hf:(TLibrary:Ty).fits x)(u:Unit):Ret (F_9 N (x,room,u)) (fun r=>r.1<=room/\(0<=r.1->((x.1.length<4000000/\∀ e0∈x.1,(e0.1.size<4000000)/\(e0.2.2.1.length<4000000/\∀ e1∈e0.2.2.1,(e1.1.size<4000000))/\(e0.2.2.2.1.length<4000000/\∀ e1∈e0.2.2.2.1,(e1.2.2.2.2.1.length<4000000/\∀ e2∈e1.2.2.2.2.1,(e2.1.length<4000000)/\(e2.2.1.length<4000000)/\(e2.2.2.1.length<4000000))/\(e1.2.2.2.2.2.1.length<4000000/\∀ e2∈e1.2.2.2.2.2.1,(e2.1.length<4000000)/\(e2.2.1.length<4000000)/\(e2.2.2.1.length<4000000)))/\(e0.2.2.2.2.1.length<4000000)))/\(q154 x:Int)<=0+32 * (room - r.1))):=by
 have hm:=q30;unfold F_9;dsimp only;have hf0:=hf.1;refine Ret.bind (q884 hN x.1 room ⟨by omega,by omega⟩ hf0 ()) ?_;rintro ⟨r0,v0⟩ ⟨a0,b0⟩;dsimp only at a0 b0 |-;refine rg ?_ ?_ <;> intro g0
 .exact rb ⟨by show (-1:Int)<=room; omega,fun h=>absurd h (by decide)⟩
 have c0:=(b0 (by omega)).2;exact rb ⟨by show r0<=room; omega,fun _=>⟨(b0 (by omega)).1,by simp only[q154]; show _<=0+32 * (room - r0); omega⟩⟩
theorem q651{N:Nat}(hN:HN N)(x:DInstance)(room:Int)(h:0<=room/\room<=1048576)(hf:(TInstance:Ty).fits x)(u:Unit):Ret (F_10 N (x,room,u)) (fun r=>r.1<=room/\(0<=r.1->((x.1.size<4000000)/\(x.2.2.1.length<4000000))/\(q69 x:Int)<=2+32 * (room - r.1))):=by
 have hm:=q30;unfold F_10;dsimp only;have hf0:=hf.1;rw[wrapI (n:=room - (x.1.size:Int)) (by omega) (by omega)];refine rg ?_ ?_ <;> intro g0
 .exact rb ⟨by show (-1:Int)<=room; omega,fun h=>absurd h (by decide)⟩
 have hf1:=hf.2.2.1;refine Ret.bind (q95 hN x.2.2.1 (room - (x.1.size:Int)) ⟨by omega,by omega⟩ hf1 ()) ?_;rintro ⟨r1,v1⟩ ⟨a1,b1⟩;dsimp only at a1 b1 |-;refine rg ?_ ?_ <;> intro g1
 .exact rb ⟨by show (-1:Int)<=room; omega,fun h=>absurd h (by decide)⟩
 have c1:=(b1 (by omega)).2;exact rb ⟨by show r1<=room; omega,fun _=>⟨⟨(by omega),(b1 (by omega)).1⟩,by simp only[q69]; show _<=2+32 * (room - r1); omega⟩⟩
theorem q580{N:Nat}(hN:HN N)(x:List DInstance)(room:Int)(h:0<=room/\room<=1048576)(hf:((.slice TInstance):Ty).fits x)(u:Unit):Ret (F_11 N (x,room,u)) (fun r=>r.1<=room/\(0<=r.1->(x.length<4000000/\∀ e0∈x,(e0.1.size<4000000)/\(e0.2.2.1.length<4000000))/\(q90 x:Int)<=32 * (room - r.1))):=by
 have hm:=q30;unfold F_11;have hl:=hf.1;dsimp only;rw[wrapI (n:=room - (x.length:Int)) (by omega) (by omega)];refine rg ?_ ?_ <;> intro h1
 .exact rb ⟨by show (-1:Int)<=room; omega,fun h=>absurd h (by decide)⟩
 refine rz 0 x.length (fun i r _=>0<=r/\r<=room - (x.length:Int)/\(∀ j,j<i->∀ h:j<x.length,(x[j].1.size<4000000)/\(x[j].2.2.1.length<4000000))/\((((x.take i).map fun e=>q69 e).sum:Nat):Int)<=32 * (i:Int)+32 * (room - (x.length:Int) - r)) (by omega) (by omega) (by omega) ⟨by omega,by omega,q20,by simp⟩ ?_ ?_
 .rintro i r t next _ hi ⟨hr0,hr,hI,hS⟩ hn
  have hfi:=hf.2 _ (aR hi);have hts:=q51 (fun e=>q69 e) hi;dsimp only at hts |-;refine re ?_ ?_
  .omega
  refine rc hi (Ret.bind (q651 hN x[i] r ⟨hr0,by omega⟩ hfi ()) ?_);rintro ⟨r2,v⟩ ⟨h2,h3⟩;dsimp only at h2 h3 |-;refine rg ?_ ?_ <;> intro h4
  .exact rb ⟨by show (-1:Int)<=room; omega,fun h=>absurd h (by decide)⟩
  .obtain ⟨h5,h6⟩:=h3 (by omega);exact hn _ _ ⟨by omega,by omega,q12 hI fun _=>h5,by rw[hts]; omega⟩
 .rintro r t next ⟨hr0,hr,hI,hS⟩
  rw[aP] at hS;dsimp only;refine rd ?_ (rb ⟨by show r<=room; omega,fun _=>⟨⟨by omega,q13.2 fun j hj=>hI j hj hj⟩,?_⟩⟩)
  .omega
  .unfold q90; show _<=32 * (room - r); omega
theorem q784{N:Nat}(hN:HN N)(x:List (ByteArray))(room:Int)(h:0<=room/\room<=1048576)(hf:((.slice (.str)):Ty).fits x)(u:Unit):Ret (F_12 N (x,room,u)) (fun r=>r.1<=room/\(0<=r.1->(x.length<4000000/\∀ e0∈x,e0.size<4000000)/\(q127 x:Int)<=32 * (room - r.1))):=by
 have hm:=q30;unfold F_12;have hl:=hf.1;dsimp only;rw[wrapI (n:=room - (x.length:Int)) (by omega) (by omega)];refine rg ?_ ?_ <;> intro h1
 .exact rb ⟨by show (-1:Int)<=room; omega,fun h=>absurd h (by decide)⟩
 refine rz 0 x.length (fun i r _=>0<=r/\r<=room - (x.length:Int)/\(∀ j,j<i->∀ h:j<x.length,x[j].size<4000000)/\((((x.take i).map fun e=>1).sum:Nat):Int)<=32 * (i:Int)+32 * (room - (x.length:Int) - r)) (by omega) (by omega) (by omega) ⟨by omega,by omega,q20,by simp⟩ ?_ ?_
 .rintro i r t next _ hi ⟨hr0,hr,hI,hS⟩ hn
  have hfi:=hf.2 _ (aR hi);have hts:=q51 (fun e=>1) hi;dsimp only at hts |-;refine re ?_ ?_
  .omega
  refine rc hi ?_;have hfi:x[i].size<=maxLen:=hfi;rw[wrapI (n:=r - (x[i].size:Int)) (by omega) (by omega)];refine rg ?_ ?_ <;> intro h2
  .exact rb ⟨by show (-1:Int)<=room; omega,fun h=>absurd h (by decide)⟩
  .exact hn _ _ ⟨by omega,by omega,q12 hI fun _=>by omega,by rw[hts]; omega⟩
 .rintro r t next ⟨hr0,hr,hI,hS⟩
  rw[aP] at hS;dsimp only;refine rd ?_ (rb ⟨by show r<=room; omega,fun _=>⟨⟨by omega,q13.2 fun j hj=>hI j hj hj⟩,?_⟩⟩)
  .omega
  .unfold q127; show _<=32 * (room - r); omega
theorem q938{N:Nat}(hN:HN N)(x:DPort)(room:Int)(h:0<=room/\room<=1048576)(hf:(TPort:Ty).fits x)(u:Unit):Ret (F_13 N (x,room,u)) (fun r=>r.1<=room/\(0<=r.1->((x.1.size<4000000))/\(q168 x:Int)<=3+32 * (room - r.1))):=by
 have hm:=q30;unfold F_13;dsimp only;have hf0:=hf.1;rw[wrapI (n:=room - (x.1.size:Int)) (by omega) (by omega)];refine rg ?_ ?_ <;> intro g0
 .exact rb ⟨by show (-1:Int)<=room; omega,fun h=>absurd h (by decide)⟩
 exact rb ⟨by show (room - (x.1.size:Int))<=room; omega,fun _=>⟨(by omega),by simp only[q168]; show _<=3+32 * (room - (room - (x.1.size:Int))); omega⟩⟩
theorem q923{N:Nat}(hN:HN N)(x:List DPort)(room:Int)(h:0<=room/\room<=1048576)(hf:((.slice TPort):Ty).fits x)(u:Unit):Ret (F_14 N (x,room,u)) (fun r=>r.1<=room/\(0<=r.1->(x.length<4000000/\∀ e0∈x,(e0.1.size<4000000))/\(q196 x:Int)<=32 * (room - r.1))):=by
 have hm:=q30;unfold F_14;have hl:=hf.1;dsimp only;rw[wrapI (n:=room - (x.length:Int)) (by omega) (by omega)];refine rg ?_ ?_ <;> intro h1
 .exact rb ⟨by show (-1:Int)<=room; omega,fun h=>absurd h (by decide)⟩
 refine rz 0 x.length (fun i r _=>0<=r/\r<=room - (x.length:Int)/\(∀ j,j<i->∀ h:j<x.length,(x[j].1.size<4000000))/\((((x.take i).map fun e=>q168 e).sum:Nat):Int)<=32 * (i:Int)+32 * (room - (x.length:Int) - r)) (by omega) (by omega) (by omega) ⟨by omega,by omega,q20,by simp⟩ ?_ ?_
 .rintro i r t next _ hi ⟨hr0,hr,hI,hS⟩ hn
  have hfi:=hf.2 _ (aR hi);have hts:=q51 (fun e=>q168 e) hi;dsimp only at hts |-;refine re ?_ ?_
  .omega
  refine rc hi (Ret.bind (q938 hN x[i] r ⟨hr0,by omega⟩ hfi ()) ?_);rintro ⟨r2,v⟩ ⟨h2,h3⟩;dsimp only at h2 h3 |-;refine rg ?_ ?_ <;> intro h4
  .exact rb ⟨by show (-1:Int)<=room; omega,fun h=>absurd h (by decide)⟩
  .obtain ⟨h5,h6⟩:=h3 (by omega);exact hn _ _ ⟨by omega,by omega,q12 hI fun _=>h5,by rw[hts]; omega⟩
 .rintro r t next ⟨hr0,hr,hI,hS⟩
  rw[aP] at hS;dsimp only;refine rd ?_ (rb ⟨by show r<=room; omega,fun _=>⟨⟨by omega,q13.2 fun j hj=>hI j hj hj⟩,?_⟩⟩)
  .omega
  .unfold q196; show _<=32 * (room - r); omega
theorem q872{N:Nat}(hN:HN N)(x:DDesign)(room:Int)(h:0<=room/\room<=1048576)(hf:(TDesign:Ty).fits x)(u:Unit):Ret (F_15 N (x,room,u)) (fun r=>r.1<=room/\(0<=r.1->((x.1.length<4000000/\∀ e0∈x.1,(e0.1.size<4000000)/\(e0.2.2.1.length<4000000))/\(x.2.1.length<4000000/\∀ e0∈x.2.1,e0.size<4000000)/\(x.2.2.1.length<4000000/\∀ e0∈x.2.2.1,(e0.1.size<4000000)))/\(q198 x:Int)<=0+32 * (room - r.1))):=by
 have hm:=q30;unfold F_15;dsimp only;have hf0:=hf.1;refine Ret.bind (q580 hN x.1 room ⟨by omega,by omega⟩ hf0 ()) ?_;rintro ⟨r0,v0⟩ ⟨a0,b0⟩;dsimp only at a0 b0 |-;refine rg ?_ ?_ <;> intro g0
 .exact rb ⟨by show (-1:Int)<=room; omega,fun h=>absurd h (by decide)⟩
 have hf1:=hf.2.1;refine Ret.bind (q784 hN x.2.1 r0 ⟨by omega,by omega⟩ hf1 ()) ?_;rintro ⟨r1,v1⟩ ⟨a1,b1⟩;dsimp only at a1 b1 |-;refine rg ?_ ?_ <;> intro g1
 .exact rb ⟨by show (-1:Int)<=room; omega,fun h=>absurd h (by decide)⟩
 have hf2:=hf.2.2.1;refine Ret.bind (q923 hN x.2.2.1 r1 ⟨by omega,by omega⟩ hf2 ()) ?_;rintro ⟨r2,v2⟩ ⟨a2,b2⟩;dsimp only at a2 b2 |-;refine rg ?_ ?_ <;> intro g2
 .exact rb ⟨by show (-1:Int)<=room; omega,fun h=>absurd h (by decide)⟩
 have c0:=(b0 (by omega)).2;have c1:=(b1 (by omega)).2;have c2:=(b2 (by omega)).2;exact rb ⟨by show r2<=room; omega,fun _=>⟨⟨(b0 (by omega)).1,(b1 (by omega)).1,(b2 (by omega)).1⟩,by simp only[q198]; show _<=0+32 * (room - r2); omega⟩⟩
theorem q953{N:Nat}(hN:HN N)(x:DWire)(room:Int)(h:0<=room/\room<=1048576)(hf:(TWire:Ty).fits x)(u:Unit):Ret (F_16 N (x,room,u)) (fun r=>r.1<=room/\(0<=r.1->((x.1.length<4000000)/\(x.2.1.length<4000000)/\(x.2.2.1.length<4000000)/\(x.2.2.2.1.length<4000000))/\(q172 x:Int)<=0+32 * (room - r.1))):=by
 have hm:=q30;unfold F_16;dsimp only;have hf0:=hf.1;refine Ret.bind (q95 hN x.1 room ⟨by omega,by omega⟩ hf0 ()) ?_;rintro ⟨r0,v0⟩ ⟨a0,b0⟩;dsimp only at a0 b0 |-;refine rg ?_ ?_ <;> intro g0
 .exact rb ⟨by show (-1:Int)<=room; omega,fun h=>absurd h (by decide)⟩
 have hf1:=hf.2.1;refine Ret.bind (q95 hN x.2.1 r0 ⟨by omega,by omega⟩ hf1 ()) ?_;rintro ⟨r1,v1⟩ ⟨a1,b1⟩;dsimp only at a1 b1 |-;refine rg ?_ ?_ <;> intro g1
 .exact rb ⟨by show (-1:Int)<=room; omega,fun h=>absurd h (by decide)⟩
 have hf2:=hf.2.2.1;refine Ret.bind (q95 hN x.2.2.1 r1 ⟨by omega,by omega⟩ hf2 ()) ?_;rintro ⟨r2,v2⟩ ⟨a2,b2⟩;dsimp only at a2 b2 |-;refine rg ?_ ?_ <;> intro g2
 .exact rb ⟨by show (-1:Int)<=room; omega,fun h=>absurd h (by decide)⟩
 have hf3:=hf.2.2.2.1;refine Ret.bind (q95 hN x.2.2.2.1 r2 ⟨by omega,by omega⟩ hf3 ()) ?_;rintro ⟨r3,v3⟩ ⟨a3,b3⟩;dsimp only at a3 b3 |-;refine rg ?_ ?_ <;> intro g3
 .exact rb ⟨by show (-1:Int)<=room; omega,fun h=>absurd h (by decide)⟩
 have c0:=(b0 (by omega)).2;have c1:=(b1 (by omega)).2;have c2:=(b2 (by omega)).2;have c3:=(b3 (by omega)).2;exact rb ⟨by show r3<=room; omega,fun _=>⟨⟨(b0 (by omega)).1,(b1 (by omega)).1,(b2 (by omega)).1,(b3 (by omega)).1⟩,by simp only[q172]; show _<=0+32 * (room - r3); omega⟩⟩
theorem q888{N:Nat}(hN:HN N)(x:List DWire)(room:Int)(h:0<=room/\room<=1048576)(hf:((.slice TWire):Ty).fits x)(u:Unit):Ret (F_17 N (x,room,u)) (fun r=>r.1<=room/\(0<=r.1->(x.length<4000000/\∀ e0∈x,(e0.1.length<4000000)/\(e0.2.1.length<4000000)/\(e0.2.2.1.length<4000000)/\(e0.2.2.2.1.length<4000000))/\(q187 x:Int)<=32 * (room - r.1))):=by
 have hm:=q30;unfold F_17;have hl:=hf.1;dsimp only;rw[wrapI (n:=room - (x.length:Int)) (by omega) (by omega)];refine rg ?_ ?_ <;> intro h1
 .exact rb ⟨by show (-1:Int)<=room; omega,fun h=>absurd h (by decide)⟩
 refine rz 0 x.length (fun i r _=>0<=r/\r<=room - (x.length:Int)/\(∀ j,j<i->∀ h:j<x.length,(x[j].1.length<4000000)/\(x[j].2.1.length<4000000)/\(x[j].2.2.1.length<4000000)/\(x[j].2.2.2.1.length<4000000))/\((((x.take i).map fun e=>q172 e).sum:Nat):Int)<=32 * (i:Int)+32 * (room - (x.length:Int) - r)) (by omega) (by omega) (by omega) ⟨by omega,by omega,q20,by simp⟩ ?_ ?_
 .rintro i r t next _ hi ⟨hr0,hr,hI,hS⟩ hn
  have hfi:=hf.2 _ (aR hi);have hts:=q51 (fun e=>q172 e) hi;dsimp only at hts |-;refine re ?_ ?_
  .omega
  refine rc hi (Ret.bind (q953 hN x[i] r ⟨hr0,by omega⟩ hfi ()) ?_);rintro ⟨r2,v⟩ ⟨h2,h3⟩;dsimp only at h2 h3 |-;refine rg ?_ ?_ <;> intro h4
  .exact rb ⟨by show (-1:Int)<=room; omega,fun h=>absurd h (by decide)⟩
  .obtain ⟨h5,h6⟩:=h3 (by omega);exact hn _ _ ⟨by omega,by omega,q12 hI fun _=>h5,by rw[hts]; omega⟩
 .rintro r t next ⟨hr0,hr,hI,hS⟩
  rw[aP] at hS;dsimp only;refine rd ?_ (rb ⟨by show r<=room; omega,fun _=>⟨⟨by omega,q13.2 fun j hj=>hI j hj hj⟩,?_⟩⟩)
  .omega
  .unfold q187; show _<=32 * (room - r); omega
theorem q894{N:Nat}(hN:HN N)(x:DBlock)(room:Int)(h:0<=room/\room<=1048576)(hf:(TBlock:Ty).fits x)(u:Unit):Ret (F_18 N (x,room,u)) (fun r=>r.1<=room/\(0<=r.1->(((x.1.1.length<4000000/\∀ e0∈x.1.1,(e0.1.size<4000000)/\(e0.2.2.1.length<4000000/\∀ e1∈e0.2.2.1,(e1.1.size<4000000))/\(e0.2.2.2.1.length<4000000/\∀ e1∈e0.2.2.2.1,(e1.2.2.2.2.1.length<4000000/\∀ e2∈e1.2.2.2.2.1,(e2.1.length<4000000)/\(e2.2.1.length<4000000)/\(e2.2.2.1.length<4000000))/\(e1.2.2.2.2.2.1.length<4000000/\∀ e2∈e1.2.2.2.2.2.1,(e2.1.length<4000000)/\(e2.2.1.length<4000000)/\(e2.2.2.1.length<4000000)))/\(e0.2.2.2.2.1.length<4000000)))/\((x.2.1.1.length<4000000/\∀ e0∈x.2.1.1,(e0.1.size<4000000)/\(e0.2.2.1.length<4000000))/\(x.2.1.2.1.length<4000000/\∀ e0∈x.2.1.2.1,e0.size<4000000)/\(x.2.1.2.2.1.length<4000000/\∀ e0∈x.2.1.2.2.1,(e0.1.size<4000000)))/\(x.2.2.1.length<4000000/\∀ e0∈x.2.2.1,(e0.1.length<4000000)/\(e0.2.1.length<4000000)/\(e0.2.2.1.length<4000000)/\(e0.2.2.2.1.length<4000000)))/\(q225 x:Int)<=0+32 * (room - r.1))):=by
 have hm:=q30;unfold F_18;dsimp only;have hf0:=hf.1;refine Ret.bind (q770 hN x.1 room ⟨by omega,by omega⟩ hf0 ()) ?_;rintro ⟨r0,v0⟩ ⟨a0,b0⟩;dsimp only at a0 b0 |-;refine rg ?_ ?_ <;> intro g0
 .exact rb ⟨by show (-1:Int)<=room; omega,fun h=>absurd h (by decide)⟩
 have hf1:=hf.2.1;refine Ret.bind (q872 hN x.2.1 r0 ⟨by omega,by omega⟩ hf1 ()) ?_;rintro ⟨r1,v1⟩ ⟨a1,b1⟩;dsimp only at a1 b1 |-;refine rg ?_ ?_ <;> intro g1
 .exact rb ⟨by show (-1:Int)<=room; omega,fun h=>absurd h (by decide)⟩
 have hf2:=hf.2.2.1;refine Ret.bind (q888 hN x.2.2.1 r1 ⟨by omega,by omega⟩ hf2 ()) ?_;rintro ⟨r2,v2⟩ ⟨a2,b2⟩;dsimp only at a2 b2 |-;refine rg ?_ ?_ <;> intro g2
 .exact rb ⟨by show (-1:Int)<=room; omega,fun h=>absurd h (by decide)⟩
 have c0:=(b0 (by omega)).2;have c1:=(b1 (by omega)).2;have c2:=(b2 (by omega)).2;exact rb ⟨by show r2<=room; omega,fun _=>⟨⟨(b0 (by omega)).1,(b1 (by omega)).1,(b2 (by omega)).1⟩,by simp only[q225]; show _<=0+32 * (room - r2); omega⟩⟩
theorem q862{N:Nat}(hN:HN N)(x:DCorner)(room:Int)(h:0<=room/\room<=1048576)(hf:(TCorner:Ty).fits x)(u:Unit):Ret (F_19 N (x,room,u)) (fun r=>r.1<=room/\(0<=r.1->((x.1.size<4000000))/\(q379 x:Int)<=5+32 * (room - r.1))):=by
 have hm:=q30;unfold F_19;dsimp only;have hf0:=hf.1;rw[wrapI (n:=room - (x.1.size:Int)) (by omega) (by omega)];refine rg ?_ ?_ <;> intro g0
 .exact rb ⟨by show (-1:Int)<=room; omega,fun h=>absurd h (by decide)⟩
 exact rb ⟨by show (room - (x.1.size:Int))<=room; omega,fun _=>⟨(by omega),by simp only[q379]; show _<=5+32 * (room - (room - (x.1.size:Int))); omega⟩⟩
theorem q785{N:Nat}(hN:HN N)(x:List DSource)(room:Int)(h:0<=room/\room<=1048576)(hf:((.slice TSource):Ty).fits x)(u:Unit):Ret (F_20 N (x,room,u)) (fun r=>r.1<=room/\(0<=r.1->(x.length<4000000)/\(q109 x:Int)<=32 * (room - r.1))):=by
 have hm:=q30;unfold F_20;have hl:=hf.1;dsimp only;rw[wrapI (n:=room - (x.length:Int)) (by omega) (by omega)];refine rg ?_ ?_ <;> intro h1
 .exact rb ⟨by show (-1:Int)<=room; omega,fun h=>absurd h (by decide)⟩
 .have hc:q109 x<=32 * x.length:=by unfold q109;refine q514 (fun e _=>?_);simp only[q191,q171,q171]; omega
  exact rb ⟨by show room - (x.length:Int)<=room; omega,fun _=>⟨by omega,by show _<=32 * (room - (room - (x.length:Int))); omega⟩⟩
theorem sc_Job{N:Nat}(hN:HN N)(x:DJob)(room:Int)(h:0<=room/\room<=1048576)(hf:(TJob:Ty).fits x)(u:Unit):Ret (F_21 N (x,room,u)) (fun r=>r.1<=room/\(0<=r.1->((((x.1.1.1.length<4000000/\∀ e0∈x.1.1.1,(e0.1.size<4000000)/\(e0.2.2.1.length<4000000/\∀ e1∈e0.2.2.1,(e1.1.size<4000000))/\(e0.2.2.2.1.length<4000000/\∀ e1∈e0.2.2.2.1,(e1.2.2.2.2.1.length<4000000/\∀ e2∈e1.2.2.2.2.1,(e2.1.length<4000000)/\(e2.2.1.length<4000000)/\(e2.2.2.1.length<4000000))/\(e1.2.2.2.2.2.1.length<4000000/\∀ e2∈e1.2.2.2.2.2.1,(e2.1.length<4000000)/\(e2.2.1.length<4000000)/\(e2.2.2.1.length<4000000)))/\(e0.2.2.2.2.1.length<4000000)))/\((x.1.2.1.1.length<4000000/\∀ e0∈x.1.2.1.1,(e0.1.size<4000000)/\(e0.2.2.1.length<4000000))/\(x.1.2.1.2.1.length<4000000/\∀ e0∈x.1.2.1.2.1,e0.size<4000000)/\(x.1.2.1.2.2.1.length<4000000/\∀ e0∈x.1.2.1.2.2.1,(e0.1.size<4000000)))/\(x.1.2.2.1.length<4000000/\∀ e0∈x.1.2.2.1,(e0.1.length<4000000)/\(e0.2.1.length<4000000)/\(e0.2.2.1.length<4000000)/\(e0.2.2.2.1.length<4000000)))/\((x.2.1.1.size<4000000))/\(x.2.2.1.length<4000000)/\(x.2.2.2.1.length<4000000))/\(q556 x:Int)<=5+32 * (room - r.1))):=by
 have hm:=q30;unfold F_21;dsimp only;have hf0:=hf.1;refine Ret.bind (q894 hN x.1 room ⟨by omega,by omega⟩ hf0 ()) ?_;rintro ⟨r0,v0⟩ ⟨a0,b0⟩;dsimp only at a0 b0 |-;refine rg ?_ ?_ <;> intro g0
 .exact rb ⟨by show (-1:Int)<=room; omega,fun h=>absurd h (by decide)⟩
 have hf1:=hf.2.1;refine Ret.bind (q862 hN x.2.1 r0 ⟨by omega,by omega⟩ hf1 ()) ?_;rintro ⟨r1,v1⟩ ⟨a1,b1⟩;dsimp only at a1 b1 |-;refine rg ?_ ?_ <;> intro g1
 .exact rb ⟨by show (-1:Int)<=room; omega,fun h=>absurd h (by decide)⟩
 have hf2:=hf.2.2.1;refine Ret.bind (q95 hN x.2.2.1 r1 ⟨by omega,by omega⟩ hf2 ()) ?_;rintro ⟨r2,v2⟩ ⟨a2,b2⟩;dsimp only at a2 b2 |-;refine rg ?_ ?_ <;> intro g2
 .exact rb ⟨by show (-1:Int)<=room; omega,fun h=>absurd h (by decide)⟩
 have hf3:=hf.2.2.2.1;refine Ret.bind (q785 hN x.2.2.2.1 r2 ⟨by omega,by omega⟩ hf3 ()) ?_;rintro ⟨r3,v3⟩ ⟨a3,b3⟩;dsimp only at a3 b3 |-;refine rg ?_ ?_ <;> intro g3
 .exact rb ⟨by show (-1:Int)<=room; omega,fun h=>absurd h (by decide)⟩
 have c0:=(b0 (by omega)).2;have c1:=(b1 (by omega)).2;have c2:=(b2 (by omega)).2;have c3:=(b3 (by omega)).2;exact rb ⟨by show r3<=room; omega,fun _=>⟨⟨(b0 (by omega)).1,(b1 (by omega)).1,(b2 (by omega)).1,(b3 (by omega)).1⟩,by simp only[q556]; show _<=5+32 * (room - r3); omega⟩⟩
theorem q958{N:Nat}(hN:1000000000000<=N)(x:List DPin)(hs:x.length<4000000/\∀ e0∈x,(e0.1.size<4000000))(k:Int)(h0:0<=k)(hb:k+(q324 x:Nat)<=100000000000):F_285 N x k=some (k+(q324 x:Nat)):=by
 unfold F_285;have hlen:x.length<4000000:=hs.1;refine q96 (fun e=>q239 e) hN h0 hb hlen ?_ ?_
 .intro i hi m next hm hmb hn
  have hse:=hs.2 _ (aR hi);simp only[q239] at hmb;dsimp only[nth];refine re (by omega) ?_;refine vf hN (by (try simp (disch:=omega) only [wrapI]); omega) fun _=>?_;refine rc hi ?_;refine rc hi ?_;refine rc hi ?_;refine rc hi ?_;refine vb hn ?_
  (try simp (disch:=omega) only [wrapI])
  simp only[q239];omega
 .intro m next
  dsimp only[nth];exact Ret.eq (rd (by omega) (rb rfl))
theorem q101{N:Nat}(hN:1000000000000<=N)(x:List (Int))(hs:x.length<4000000)(k:Int)(h0:0<=k)(hb:k+(q43 x:Nat)<=100000000000):F_286 N x k=some (k+(q43 x:Nat)):=by
 unfold F_286;have hlen:x.length<4000000:=hs;refine q96 (fun e=>1) hN h0 hb hlen ?_ ?_
 .intro i hi m next hm hmb hn
  (try dsimp only at hmb)
  dsimp only[nth];refine re (by omega) ?_;refine rc hi ?_;refine vb hn ?_
  (try simp (disch:=omega) only [wrapI])
  omega
 .intro m next
  dsimp only[nth];exact Ret.eq (rd (by omega) (rb rfl))
theorem q625{N:Nat}(hN:1000000000000<=N)(x:List DTable)(hs:x.length<4000000/\∀ e0∈x,(e0.1.length<4000000)/\(e0.2.1.length<4000000)/\(e0.2.2.1.length<4000000))(k:Int)(h0:0<=k)(hb:k+(q144 x:Nat)<=100000000000):F_287 N x k=some (k+(q144 x:Nat)):=by
 unfold F_287;have hlen:x.length<4000000:=hs.1;refine q96 (fun e=>q133 e) hN h0 hb hlen ?_ ?_
 .intro i hi m next hm hmb hn
  have hse:=hs.2 _ (aR hi);simp only[q133] at hmb;dsimp only[nth];refine re (by omega) ?_;refine rc hi ?_;refine ra (q101 hN _ (hse.1) _ (by (try simp (disch:=omega) only [wrapI]); omega) (by (try simp (disch:=omega) only [wrapI]); omega)) ?_;refine rc hi ?_;refine ra (q101 hN _ (hse.2.1) _ (by (try simp (disch:=omega) only [wrapI]); omega) (by (try simp (disch:=omega) only [wrapI]); omega)) ?_;refine rc hi ?_;refine ra (q101 hN _ (hse.2.2) _ (by (try simp (disch:=omega) only [wrapI]); omega) (by (try simp (disch:=omega) only [wrapI]); omega)) ?_;refine vb hn ?_
  (try simp (disch:=omega) only [wrapI])
  simp only[q133];omega
 .intro m next
  dsimp only[nth];exact Ret.eq (rd (by omega) (rb rfl))
theorem q925{N:Nat}(hN:1000000000000<=N)(x:List DArc)(hs:x.length<4000000/\∀ e0∈x,(e0.2.2.2.2.1.length<4000000/\∀ e1∈e0.2.2.2.2.1,(e1.1.length<4000000)/\(e1.2.1.length<4000000)/\(e1.2.2.1.length<4000000))/\(e0.2.2.2.2.2.1.length<4000000/\∀ e1∈e0.2.2.2.2.2.1,(e1.1.length<4000000)/\(e1.2.1.length<4000000)/\(e1.2.2.1.length<4000000)))(k:Int)(h0:0<=k)(hb:k+(q331 x:Nat)<=100000000000):F_288 N x k=some (k+(q331 x:Nat)):=by
 unfold F_288;have hlen:x.length<4000000:=hs.1;refine q96 (fun e=>q231 e) hN h0 hb hlen ?_ ?_
 .intro i hi m next hm hmb hn
  have hse:=hs.2 _ (aR hi);simp only[q231] at hmb;dsimp only[nth];refine re (by omega) ?_;refine rc hi ?_;refine rc hi ?_;refine rc hi ?_;refine rc hi ?_;refine rc hi ?_;refine ra (q625 hN _ (hse.1) _ (by (try simp (disch:=omega) only [wrapI]); omega) (by (try simp (disch:=omega) only [wrapI]); omega)) ?_;refine rc hi ?_;refine ra (q625 hN _ (hse.2) _ (by (try simp (disch:=omega) only [wrapI]); omega) (by (try simp (disch:=omega) only [wrapI]); omega)) ?_;refine vb hn ?_
  (try simp (disch:=omega) only [wrapI])
  simp only[q231];omega
 .intro m next
  dsimp only[nth];exact Ret.eq (rd (by omega) (rb rfl))
theorem q910{N:Nat}(hN:1000000000000<=N)(x:List DCell)(hs:x.length<4000000/\∀ e0∈x,(e0.1.size<4000000)/\(e0.2.2.1.length<4000000/\∀ e1∈e0.2.2.1,(e1.1.size<4000000))/\(e0.2.2.2.1.length<4000000/\∀ e1∈e0.2.2.2.1,(e1.2.2.2.2.1.length<4000000/\∀ e2∈e1.2.2.2.2.1,(e2.1.length<4000000)/\(e2.2.1.length<4000000)/\(e2.2.2.1.length<4000000))/\(e1.2.2.2.2.2.1.length<4000000/\∀ e2∈e1.2.2.2.2.2.1,(e2.1.length<4000000)/\(e2.2.1.length<4000000)/\(e2.2.2.1.length<4000000)))/\(e0.2.2.2.2.1.length<4000000))(k:Int)(h0:0<=k)(hb:k+(q186 x:Nat)<=100000000000):F_289 N x k=some (k+(q186 x:Nat)):=by
 unfold F_289;have hlen:x.length<4000000:=hs.1;refine q96 (fun e=>q166 e) hN h0 hb hlen ?_ ?_
 .intro i hi m next hm hmb hn
  have hse:=hs.2 _ (aR hi);simp only[q166] at hmb;dsimp only[nth];refine re (by omega) ?_;refine vf hN (by (try simp (disch:=omega) only [wrapI]); omega) fun _=>?_;refine rc hi ?_;refine rc hi ?_;refine rc hi ?_;refine ra (q958 hN _ (hse.2.1) _ (by (try simp (disch:=omega) only [wrapI]); omega) (by (try simp (disch:=omega) only [wrapI]); omega)) ?_;refine rc hi ?_;refine ra (q925 hN _ (hse.2.2.1) _ (by (try simp (disch:=omega) only [wrapI]); omega) (by (try simp (disch:=omega) only [wrapI]); omega)) ?_;refine rc hi ?_;refine ra (q101 hN _ (hse.2.2.2) _ (by (try simp (disch:=omega) only [wrapI]); omega) (by (try simp (disch:=omega) only [wrapI]); omega)) ?_;refine rc hi ?_;refine rc hi ?_;refine vb hn ?_
  (try simp (disch:=omega) only [wrapI])
  simp only[q166];omega
 .intro m next
  dsimp only[nth];exact Ret.eq (rd (by omega) (rb rfl))
theorem q772{N:Nat}(hN:1000000000000<=N)(x:DLibrary)(hs:(x.1.length<4000000/\∀ e0∈x.1,(e0.1.size<4000000)/\(e0.2.2.1.length<4000000/\∀ e1∈e0.2.2.1,(e1.1.size<4000000))/\(e0.2.2.2.1.length<4000000/\∀ e1∈e0.2.2.2.1,(e1.2.2.2.2.1.length<4000000/\∀ e2∈e1.2.2.2.2.1,(e2.1.length<4000000)/\(e2.2.1.length<4000000)/\(e2.2.2.1.length<4000000))/\(e1.2.2.2.2.2.1.length<4000000/\∀ e2∈e1.2.2.2.2.2.1,(e2.1.length<4000000)/\(e2.2.1.length<4000000)/\(e2.2.2.1.length<4000000)))/\(e0.2.2.2.2.1.length<4000000)))(k:Int)(h0:0<=k)(hb:k+(q120 x:Nat)<=100000000000):F_290 N x k=some (k+(q120 x:Nat)):=by unfold F_290;unfold q120 at hb |-;refine Ret.eq ?_;refine ra (q910 hN _ (hs) _ (by omega) (by omega)) ?_;exact rb (by omega)
theorem q645{N:Nat}(hN:1000000000000<=N)(x:List DInstance)(hs:x.length<4000000/\∀ e0∈x,(e0.1.size<4000000)/\(e0.2.2.1.length<4000000))(k:Int)(h0:0<=k)(hb:k+(q90 x:Nat)<=100000000000):F_291 N x k=some (k+(q90 x:Nat)):=by
 unfold F_291;have hlen:x.length<4000000:=hs.1;refine q96 (fun e=>q69 e) hN h0 hb hlen ?_ ?_
 .intro i hi m next hm hmb hn
  have hse:=hs.2 _ (aR hi);simp only[q69] at hmb;dsimp only[nth];refine re (by omega) ?_;refine vf hN (by (try simp (disch:=omega) only [wrapI]); omega) fun _=>?_;refine rc hi ?_;refine rc hi ?_;refine rc hi ?_;refine ra (q101 hN _ (hse.2) _ (by (try simp (disch:=omega) only [wrapI]); omega) (by (try simp (disch:=omega) only [wrapI]); omega)) ?_;refine vb hn ?_
  (try simp (disch:=omega) only [wrapI])
  simp only[q69];omega
 .intro m next
  dsimp only[nth];exact Ret.eq (rd (by omega) (rb rfl))
theorem q759{N:Nat}(hN:1000000000000<=N)(x:List (ByteArray))(hs:x.length<4000000/\∀ e0∈x,e0.size<4000000)(k:Int)(h0:0<=k)(hb:k+(q127 x:Nat)<=100000000000):F_292 N x k=some (k+(q127 x:Nat)):=by
 unfold F_292;have hlen:x.length<4000000:=hs.1;refine q96 (fun e=>1) hN h0 hb hlen ?_ ?_
 .intro i hi m next hm hmb hn
  (try dsimp only at hmb)
  dsimp only[nth];refine re (by omega) ?_;refine vf hN (by (try simp (disch:=omega) only [wrapI]); omega) fun _=>?_;refine rc hi ?_;refine vb hn ?_
  (try simp (disch:=omega) only [wrapI])
  omega
 .intro m next
  dsimp only[nth];exact Ret.eq (rd (by omega) (rb rfl))
theorem q917{N:Nat}(hN:1000000000000<=N)(x:List DPort)(hs:x.length<4000000/\∀ e0∈x,(e0.1.size<4000000))(k:Int)(h0:0<=k)(hb:k+(q196 x:Nat)<=100000000000):F_293 N x k=some (k+(q196 x:Nat)):=by
 unfold F_293;have hlen:x.length<4000000:=hs.1;refine q96 (fun e=>q168 e) hN h0 hb hlen ?_ ?_
 .intro i hi m next hm hmb hn
  have hse:=hs.2 _ (aR hi);simp only[q168] at hmb;dsimp only[nth];refine re (by omega) ?_;refine vf hN (by (try simp (disch:=omega) only [wrapI]); omega) fun _=>?_;refine rc hi ?_;refine rc hi ?_;refine rc hi ?_;refine vb hn ?_
  (try simp (disch:=omega) only [wrapI])
  simp only[q168];omega
 .intro m next
  dsimp only[nth];exact Ret.eq (rd (by omega) (rb rfl))
theorem q847{N:Nat}(hN:1000000000000<=N)(x:DDesign)(hs:(x.1.length<4000000/\∀ e0∈x.1,(e0.1.size<4000000)/\(e0.2.2.1.length<4000000))/\(x.2.1.length<4000000/\∀ e0∈x.2.1,e0.size<4000000)/\(x.2.2.1.length<4000000/\∀ e0∈x.2.2.1,(e0.1.size<4000000)))(k:Int)(h0:0<=k)(hb:k+(q151 x:Nat)<=100000000000):F_294 N x k=some (k+(q151 x:Nat)):=by unfold F_294;unfold q151 at hb |-;refine Ret.eq ?_;refine ra (q645 hN _ (hs.1) _ (by omega) (by omega)) ?_;refine ra (q759 hN _ (hs.2.1) _ (by omega) (by omega)) ?_;refine ra (q917 hN _ (hs.2.2) _ (by omega) (by omega)) ?_;exact rb (by omega)
theorem q903{N:Nat}(hN:1000000000000<=N)(x:List DWire)(hs:x.length<4000000/\∀ e0∈x,(e0.1.length<4000000)/\(e0.2.1.length<4000000)/\(e0.2.2.1.length<4000000)/\(e0.2.2.2.1.length<4000000))(k:Int)(h0:0<=k)(hb:k+(q187 x:Nat)<=100000000000):F_295 N x k=some (k+(q187 x:Nat)):=by
 unfold F_295;have hlen:x.length<4000000:=hs.1;refine q96 (fun e=>q172 e) hN h0 hb hlen ?_ ?_
 .intro i hi m next hm hmb hn
  have hse:=hs.2 _ (aR hi);simp only[q172] at hmb;dsimp only[nth];refine re (by omega) ?_;refine rc hi ?_;refine ra (q101 hN _ (hse.1) _ (by (try simp (disch:=omega) only [wrapI]); omega) (by (try simp (disch:=omega) only [wrapI]); omega)) ?_;refine rc hi ?_;refine ra (q101 hN _ (hse.2.1) _ (by (try simp (disch:=omega) only [wrapI]); omega) (by (try simp (disch:=omega) only [wrapI]); omega)) ?_;refine rc hi ?_;refine ra (q101 hN _ (hse.2.2.1) _ (by (try simp (disch:=omega) only [wrapI]); omega) (by (try simp (disch:=omega) only [wrapI]); omega)) ?_;refine rc hi ?_;refine ra (q101 hN _ (hse.2.2.2) _ (by (try simp (disch:=omega) only [wrapI]); omega) (by (try simp (disch:=omega) only [wrapI]); omega)) ?_;refine vb hn ?_
  (try simp (disch:=omega) only [wrapI])
  simp only[q172];omega
 .intro m next
  dsimp only[nth];exact Ret.eq (rd (by omega) (rb rfl))
theorem q907{N:Nat}(hN:1000000000000<=N)(x:DBlock)(hs:((x.1.1.length<4000000/\∀ e0∈x.1.1,(e0.1.size<4000000)/\(e0.2.2.1.length<4000000/\∀ e1∈e0.2.2.1,(e1.1.size<4000000))/\(e0.2.2.2.1.length<4000000/\∀ e1∈e0.2.2.2.1,(e1.2.2.2.2.1.length<4000000/\∀ e2∈e1.2.2.2.2.1,(e2.1.length<4000000)/\(e2.2.1.length<4000000)/\(e2.2.2.1.length<4000000))/\(e1.2.2.2.2.2.1.length<4000000/\∀ e2∈e1.2.2.2.2.2.1,(e2.1.length<4000000)/\(e2.2.1.length<4000000)/\(e2.2.2.1.length<4000000)))/\(e0.2.2.2.2.1.length<4000000)))/\((x.2.1.1.length<4000000/\∀ e0∈x.2.1.1,(e0.1.size<4000000)/\(e0.2.2.1.length<4000000))/\(x.2.1.2.1.length<4000000/\∀ e0∈x.2.1.2.1,e0.size<4000000)/\(x.2.1.2.2.1.length<4000000/\∀ e0∈x.2.1.2.2.1,(e0.1.size<4000000)))/\(x.2.2.1.length<4000000/\∀ e0∈x.2.2.1,(e0.1.length<4000000)/\(e0.2.1.length<4000000)/\(e0.2.2.1.length<4000000)/\(e0.2.2.2.1.length<4000000)))(k:Int)(h0:0<=k)(hb:k+(q192 x:Nat)<=100000000000):F_296 N x k=some (k+(q192 x:Nat)):=by unfold F_296;unfold q192 at hb |-;refine Ret.eq ?_;refine ra (q772 hN _ (hs.1) _ (by omega) (by omega)) ?_;refine ra (q847 hN _ (hs.2.1) _ (by omega) (by omega)) ?_;refine ra (q903 hN _ (hs.2.2) _ (by omega) (by omega)) ?_;exact rb (by omega)
theorem q779{N:Nat}(hN:1000000000000<=N)(x:List DSource)(hs:x.length<4000000)(k:Int)(h0:0<=k)(hb:k+(q109 x:Nat)<=100000000000):F_297 N x k=some (k+(q109 x:Nat)):=by
 unfold F_297;have hlen:x.length<4000000:=hs;refine q96 (fun e=>q191 e) hN h0 hb hlen ?_ ?_
 .intro i hi m next hm hmb hn
  simp only[q191,q171,q171] at hmb;dsimp only[nth];refine re (by omega) ?_;refine rc hi ?_;refine rc hi ?_;refine rc hi ?_;refine rc hi ?_;refine rc hi ?_;refine vb hn ?_
  (try simp (disch:=omega) only [wrapI])
  simp only[q191,q171,q171];omega
 .intro m next
  dsimp only[nth];exact Ret.eq (rd (by omega) (rb rfl))
theorem mk_Job{N:Nat}(hN:1000000000000<=N)(x:DJob)(hs:(((x.1.1.1.length<4000000/\∀ e0∈x.1.1.1,(e0.1.size<4000000)/\(e0.2.2.1.length<4000000/\∀ e1∈e0.2.2.1,(e1.1.size<4000000))/\(e0.2.2.2.1.length<4000000/\∀ e1∈e0.2.2.2.1,(e1.2.2.2.2.1.length<4000000/\∀ e2∈e1.2.2.2.2.1,(e2.1.length<4000000)/\(e2.2.1.length<4000000)/\(e2.2.2.1.length<4000000))/\(e1.2.2.2.2.2.1.length<4000000/\∀ e2∈e1.2.2.2.2.2.1,(e2.1.length<4000000)/\(e2.2.1.length<4000000)/\(e2.2.2.1.length<4000000)))/\(e0.2.2.2.2.1.length<4000000)))/\((x.1.2.1.1.length<4000000/\∀ e0∈x.1.2.1.1,(e0.1.size<4000000)/\(e0.2.2.1.length<4000000))/\(x.1.2.1.2.1.length<4000000/\∀ e0∈x.1.2.1.2.1,e0.size<4000000)/\(x.1.2.1.2.2.1.length<4000000/\∀ e0∈x.1.2.1.2.2.1,(e0.1.size<4000000)))/\(x.1.2.2.1.length<4000000/\∀ e0∈x.1.2.2.1,(e0.1.length<4000000)/\(e0.2.1.length<4000000)/\(e0.2.2.1.length<4000000)/\(e0.2.2.2.1.length<4000000)))/\((x.2.1.1.size<4000000))/\(x.2.2.1.length<4000000)/\(x.2.2.2.1.length<4000000))(k:Int)(h0:0<=k)(hb:k+(q449 x:Nat)<=100000000000):F_298 N x k=some (k+(q449 x:Nat)):=by unfold F_298;unfold q449 at hb |-;refine Ret.eq ?_;refine ra (q907 hN _ (hs.1) _ (by omega) (by omega)) ?_;refine ra (q101 hN _ (hs.2.2.1) _ (by omega) (by omega)) ?_;refine ra (q779 hN _ (hs.2.2.2) _ (by omega) (by omega)) ?_;exact rb (by omega)
end Go.Proofs.YtlmfklfjmalanaaGreatDoor
