/- The laws' own helpers: what they return. Printed by my lawgen.py. No program in sight. -/
import Derived.Test.YtegkebdjikhgmaaGreatDoorPvF1
import Derived.Test.YtegkebdjikhgmaaGreatDoorPgF
namespace Go.Proofs.YtegkebdjikhgmaaGreatDoor
set_option linter.unusedSimpArgs false
set_option linter.unusedVariables false
theorem sz_Pin{N:Nat}(hN:HN N)(x:DPin)(room:Int)(h:0<=room/\room<=1048576)(hf:(TPin:Ty).fits x)(u:Unit):Ret (F_0 N (x,room,u)) (fun r=>r.1<=room/\(0<=r.1->(x.1.size<4000000))):=by
 have hm:=q33;unfold F_0;dsimp only;have hf0:=hf.1;rw[wrapI (n:=room - (x.1.size:Int)) (by omega) (by omega)];refine rg ?_ ?_ <;> intro g0
 .exact rb ⟨by show (-1:Int)<=room; omega,fun h=>absurd h (by decide)⟩
 exact rb ⟨by show (room - (x.1.size:Int))<=room; omega,fun _=>(by omega)⟩
theorem q829{N:Nat}(hN:HN N)(x:List DPin)(room:Int)(h:0<=room/\room<=1048576)(hf:((.slice TPin):Ty).fits x)(u:Unit):Ret (F_1 N (x,room,u)) (fun r=>r.1<=room/\(0<=r.1->x.length<4000000/\∀ e0∈x,(e0.1.size<4000000))):=by
 have hm:=q33;unfold F_1;have hl:=hf.1;dsimp only;rw[wrapI (n:=room - (x.length:Int)) (by omega) (by omega)];refine rg ?_ ?_ <;> intro h1
 .exact rb ⟨by show (-1:Int)<=room; omega,fun h=>absurd h (by decide)⟩
 refine ry 0 x.length (fun i r _=>0<=r/\r<=room - (x.length:Int)/\∀ j,j<i->∀ h:j<x.length,(x[j].1.size<4000000)) (by omega) (by omega) (by omega) ⟨by omega,by omega,q21⟩ ?_ ?_
 .rintro i r t next _ hi ⟨hr0,hr,hI⟩ hn
  have hfi:=hf.2 _ (aR hi);dsimp only;refine rh ?_ ?_
  .omega
  refine rd hi (Ret.bind (sz_Pin hN x[i] r ⟨hr0,by omega⟩ hfi ()) ?_);rintro ⟨r2,v⟩ ⟨h2,h3⟩;dsimp only at h2 h3 |-;refine rg ?_ ?_ <;> intro h4
  .exact rb ⟨by show (-1:Int)<=room; omega,fun h=>absurd h (by decide)⟩
  .exact hn _ _ ⟨by omega,by omega,q14 hI fun _=>h3 (by omega)⟩
 .rintro r t next ⟨hr0,hr,hI⟩
  dsimp only;refine rf ?_ (rb ⟨by show r<=room; omega,fun _=>⟨by omega,q13.2 fun j hj=>hI j hj hj⟩⟩);omega
theorem q78{N:Nat}(hN:HN N)(x:List (Int))(room:Int)(h:0<=room/\room<=1048576)(hf:((.slice (.int .i64)):Ty).fits x)(u:Unit):Ret (F_2 N (x,room,u)) (fun r=>r.1<=room/\(0<=r.1->x.length<4000000)):=by
 have hm:=q33;unfold F_2;have hl:=hf.1;dsimp only;rw[wrapI (n:=room - (x.length:Int)) (by omega) (by omega)];refine rg ?_ ?_ <;> intro h1
 .exact rb ⟨by show (-1:Int)<=room; omega,fun h=>absurd h (by decide)⟩
 .exact rb ⟨by show room - (x.length:Int)<=room; omega,fun _=>by omega⟩
theorem q809{N:Nat}(hN:HN N)(x:DTable)(room:Int)(h:0<=room/\room<=1048576)(hf:(TTable:Ty).fits x)(u:Unit):Ret (F_3 N (x,room,u)) (fun r=>r.1<=room/\(0<=r.1->(x.1.length<4000000)/\(x.2.1.length<4000000)/\(x.2.2.1.length<4000000))):=by
 have hm:=q33;unfold F_3;dsimp only;have hf0:=hf.1;refine Ret.bind (q78 hN x.1 room ⟨by omega,by omega⟩ hf0 ()) ?_;rintro ⟨r0,v0⟩ ⟨a0,b0⟩;dsimp only at a0 b0 |-;refine rg ?_ ?_ <;> intro g0
 .exact rb ⟨by show (-1:Int)<=room; omega,fun h=>absurd h (by decide)⟩
 have hf1:=hf.2.1;refine Ret.bind (q78 hN x.2.1 r0 ⟨by omega,by omega⟩ hf1 ()) ?_;rintro ⟨r1,v1⟩ ⟨a1,b1⟩;dsimp only at a1 b1 |-;refine rg ?_ ?_ <;> intro g1
 .exact rb ⟨by show (-1:Int)<=room; omega,fun h=>absurd h (by decide)⟩
 have hf2:=hf.2.2.1;refine Ret.bind (q78 hN x.2.2.1 r1 ⟨by omega,by omega⟩ hf2 ()) ?_;rintro ⟨r2,v2⟩ ⟨a2,b2⟩;dsimp only at a2 b2 |-;refine rg ?_ ?_ <;> intro g2
 .exact rb ⟨by show (-1:Int)<=room; omega,fun h=>absurd h (by decide)⟩
 exact rb ⟨by show r2<=room; omega,fun _=>⟨b0 (by omega),b1 (by omega),b2 (by omega)⟩⟩
theorem q511{N:Nat}(hN:HN N)(x:List DTable)(room:Int)(h:0<=room/\room<=1048576)(hf:((.slice TTable):Ty).fits x)(u:Unit):Ret (F_4 N (x,room,u)) (fun r=>r.1<=room/\(0<=r.1->x.length<4000000/\∀ e0∈x,(e0.1.length<4000000)/\(e0.2.1.length<4000000)/\(e0.2.2.1.length<4000000))):=by
 have hm:=q33;unfold F_4;have hl:=hf.1;dsimp only;rw[wrapI (n:=room - (x.length:Int)) (by omega) (by omega)];refine rg ?_ ?_ <;> intro h1
 .exact rb ⟨by show (-1:Int)<=room; omega,fun h=>absurd h (by decide)⟩
 refine ry 0 x.length (fun i r _=>0<=r/\r<=room - (x.length:Int)/\∀ j,j<i->∀ h:j<x.length,(x[j].1.length<4000000)/\(x[j].2.1.length<4000000)/\(x[j].2.2.1.length<4000000)) (by omega) (by omega) (by omega) ⟨by omega,by omega,q21⟩ ?_ ?_
 .rintro i r t next _ hi ⟨hr0,hr,hI⟩ hn
  have hfi:=hf.2 _ (aR hi);dsimp only;refine rh ?_ ?_
  .omega
  refine rd hi (Ret.bind (q809 hN x[i] r ⟨hr0,by omega⟩ hfi ()) ?_);rintro ⟨r2,v⟩ ⟨h2,h3⟩;dsimp only at h2 h3 |-;refine rg ?_ ?_ <;> intro h4
  .exact rb ⟨by show (-1:Int)<=room; omega,fun h=>absurd h (by decide)⟩
  .exact hn _ _ ⟨by omega,by omega,q14 hI fun _=>h3 (by omega)⟩
 .rintro r t next ⟨hr0,hr,hI⟩
  dsimp only;refine rf ?_ (rb ⟨by show r<=room; omega,fun _=>⟨by omega,q13.2 fun j hj=>hI j hj hj⟩⟩);omega
theorem sz_Arc{N:Nat}(hN:HN N)(x:DArc)(room:Int)(h:0<=room/\room<=1048576)(hf:(TArc:Ty).fits x)(u:Unit):Ret (F_5 N (x,room,u)) (fun r=>r.1<=room/\(0<=r.1->(x.2.2.2.2.1.length<4000000/\∀ e0∈x.2.2.2.2.1,(e0.1.length<4000000)/\(e0.2.1.length<4000000)/\(e0.2.2.1.length<4000000))/\(x.2.2.2.2.2.1.length<4000000/\∀ e0∈x.2.2.2.2.2.1,(e0.1.length<4000000)/\(e0.2.1.length<4000000)/\(e0.2.2.1.length<4000000)))):=by
 have hm:=q33;unfold F_5;dsimp only;have hf0:=hf.2.2.2.2.1;refine Ret.bind (q511 hN x.2.2.2.2.1 room ⟨by omega,by omega⟩ hf0 ()) ?_;rintro ⟨r0,v0⟩ ⟨a0,b0⟩;dsimp only at a0 b0 |-;refine rg ?_ ?_ <;> intro g0
 .exact rb ⟨by show (-1:Int)<=room; omega,fun h=>absurd h (by decide)⟩
 have hf1:=hf.2.2.2.2.2.1;refine Ret.bind (q511 hN x.2.2.2.2.2.1 r0 ⟨by omega,by omega⟩ hf1 ()) ?_;rintro ⟨r1,v1⟩ ⟨a1,b1⟩;dsimp only at a1 b1 |-;refine rg ?_ ?_ <;> intro g1
 .exact rb ⟨by show (-1:Int)<=room; omega,fun h=>absurd h (by decide)⟩
 exact rb ⟨by show r1<=room; omega,fun _=>⟨b0 (by omega),b1 (by omega)⟩⟩
theorem q845{N:Nat}(hN:HN N)(x:List DArc)(room:Int)(h:0<=room/\room<=1048576)(hf:((.slice TArc):Ty).fits x)(u:Unit):Ret (F_6 N (x,room,u)) (fun r=>r.1<=room/\(0<=r.1->x.length<4000000/\∀ e0∈x,(e0.2.2.2.2.1.length<4000000/\∀ e1∈e0.2.2.2.2.1,(e1.1.length<4000000)/\(e1.2.1.length<4000000)/\(e1.2.2.1.length<4000000))/\(e0.2.2.2.2.2.1.length<4000000/\∀ e1∈e0.2.2.2.2.2.1,(e1.1.length<4000000)/\(e1.2.1.length<4000000)/\(e1.2.2.1.length<4000000)))):=by
 have hm:=q33;unfold F_6;have hl:=hf.1;dsimp only;rw[wrapI (n:=room - (x.length:Int)) (by omega) (by omega)];refine rg ?_ ?_ <;> intro h1
 .exact rb ⟨by show (-1:Int)<=room; omega,fun h=>absurd h (by decide)⟩
 refine ry 0 x.length (fun i r _=>0<=r/\r<=room - (x.length:Int)/\∀ j,j<i->∀ h:j<x.length,(x[j].2.2.2.2.1.length<4000000/\∀ e0∈x[j].2.2.2.2.1,(e0.1.length<4000000)/\(e0.2.1.length<4000000)/\(e0.2.2.1.length<4000000))/\(x[j].2.2.2.2.2.1.length<4000000/\∀ e0∈x[j].2.2.2.2.2.1,(e0.1.length<4000000)/\(e0.2.1.length<4000000)/\(e0.2.2.1.length<4000000))) (by omega) (by omega) (by omega) ⟨by omega,by omega,q21⟩ ?_ ?_
 .rintro i r t next _ hi ⟨hr0,hr,hI⟩ hn
  have hfi:=hf.2 _ (aR hi);dsimp only;refine rh ?_ ?_
  .omega
  refine rd hi (Ret.bind (sz_Arc hN x[i] r ⟨hr0,by omega⟩ hfi ()) ?_);rintro ⟨r2,v⟩ ⟨h2,h3⟩;dsimp only at h2 h3 |-;refine rg ?_ ?_ <;> intro h4
  .exact rb ⟨by show (-1:Int)<=room; omega,fun h=>absurd h (by decide)⟩
  .exact hn _ _ ⟨by omega,by omega,q14 hI fun _=>h3 (by omega)⟩
 .rintro r t next ⟨hr0,hr,hI⟩
  dsimp only;refine rf ?_ (rb ⟨by show r<=room; omega,fun _=>⟨by omega,q13.2 fun j hj=>hI j hj hj⟩⟩);omega
theorem q852{N:Nat}(hN:HN N)(x:DCell)(room:Int)(h:0<=room/\room<=1048576)(hf:(TCell:Ty).fits x)(u:Unit):Ret (F_7 N (x,room,u)) (fun r=>r.1<=room/\(0<=r.1->(x.1.size<4000000)/\(x.2.2.1.length<4000000/\∀ e0∈x.2.2.1,(e0.1.size<4000000))/\(x.2.2.2.1.length<4000000/\∀ e0∈x.2.2.2.1,(e0.2.2.2.2.1.length<4000000/\∀ e1∈e0.2.2.2.2.1,(e1.1.length<4000000)/\(e1.2.1.length<4000000)/\(e1.2.2.1.length<4000000))/\(e0.2.2.2.2.2.1.length<4000000/\∀ e1∈e0.2.2.2.2.2.1,(e1.1.length<4000000)/\(e1.2.1.length<4000000)/\(e1.2.2.1.length<4000000)))/\(x.2.2.2.2.1.length<4000000))):=by
 have hm:=q33;unfold F_7;dsimp only;have hf0:=hf.1;rw[wrapI (n:=room - (x.1.size:Int)) (by omega) (by omega)];refine rg ?_ ?_ <;> intro g0
 .exact rb ⟨by show (-1:Int)<=room; omega,fun h=>absurd h (by decide)⟩
 have hf1:=hf.2.2.1;refine Ret.bind (q829 hN x.2.2.1 (room - (x.1.size:Int)) ⟨by omega,by omega⟩ hf1 ()) ?_;rintro ⟨r1,v1⟩ ⟨a1,b1⟩;dsimp only at a1 b1 |-;refine rg ?_ ?_ <;> intro g1
 .exact rb ⟨by show (-1:Int)<=room; omega,fun h=>absurd h (by decide)⟩
 have hf2:=hf.2.2.2.1;refine Ret.bind (q845 hN x.2.2.2.1 r1 ⟨by omega,by omega⟩ hf2 ()) ?_;rintro ⟨r2,v2⟩ ⟨a2,b2⟩;dsimp only at a2 b2 |-;refine rg ?_ ?_ <;> intro g2
 .exact rb ⟨by show (-1:Int)<=room; omega,fun h=>absurd h (by decide)⟩
 have hf3:=hf.2.2.2.2.1;refine Ret.bind (q78 hN x.2.2.2.2.1 r2 ⟨by omega,by omega⟩ hf3 ()) ?_;rintro ⟨r3,v3⟩ ⟨a3,b3⟩;dsimp only at a3 b3 |-;refine rg ?_ ?_ <;> intro g3
 .exact rb ⟨by show (-1:Int)<=room; omega,fun h=>absurd h (by decide)⟩
 exact rb ⟨by show r3<=room; omega,fun _=>⟨(by omega),b1 (by omega),b2 (by omega),b3 (by omega)⟩⟩
theorem q779{N:Nat}(hN:HN N)(x:List DCell)(room:Int)(h:0<=room/\room<=1048576)(hf:((.slice TCell):Ty).fits x)(u:Unit):Ret (F_8 N (x,room,u)) (fun r=>r.1<=room/\(0<=r.1->x.length<4000000/\∀ e0∈x,(e0.1.size<4000000)/\(e0.2.2.1.length<4000000/\∀ e1∈e0.2.2.1,(e1.1.size<4000000))/\(e0.2.2.2.1.length<4000000/\∀ e1∈e0.2.2.2.1,(e1.2.2.2.2.1.length<4000000/\∀ e2∈e1.2.2.2.2.1,(e2.1.length<4000000)/\(e2.2.1.length<4000000)/\(e2.2.2.1.length<4000000))/\(e1.2.2.2.2.2.1.length<4000000/\∀ e2∈e1.2.2.2.2.2.1,(e2.1.length<4000000)/\(e2.2.1.length<4000000)/\(e2.2.2.1.length<4000000)))/\(e0.2.2.2.2.1.length<4000000))):=by
 have hm:=q33;unfold F_8;have hl:=hf.1;dsimp only;rw[wrapI (n:=room - (x.length:Int)) (by omega) (by omega)];refine rg ?_ ?_ <;> intro h1
 .exact rb ⟨by show (-1:Int)<=room; omega,fun h=>absurd h (by decide)⟩
 refine ry 0 x.length (fun i r _=>0<=r/\r<=room - (x.length:Int)/\∀ j,j<i->∀ h:j<x.length,(x[j].1.size<4000000)/\(x[j].2.2.1.length<4000000/\∀ e0∈x[j].2.2.1,(e0.1.size<4000000))/\(x[j].2.2.2.1.length<4000000/\∀ e0∈x[j].2.2.2.1,(e0.2.2.2.2.1.length<4000000/\∀ e1∈e0.2.2.2.2.1,(e1.1.length<4000000)/\(e1.2.1.length<4000000)/\(e1.2.2.1.length<4000000))/\(e0.2.2.2.2.2.1.length<4000000/\∀ e1∈e0.2.2.2.2.2.1,(e1.1.length<4000000)/\(e1.2.1.length<4000000)/\(e1.2.2.1.length<4000000)))/\(x[j].2.2.2.2.1.length<4000000)) (by omega) (by omega) (by omega) ⟨by omega,by omega,q21⟩ ?_ ?_
 .rintro i r t next _ hi ⟨hr0,hr,hI⟩ hn
  have hfi:=hf.2 _ (aR hi);dsimp only;refine rh ?_ ?_
  .omega
  refine rd hi (Ret.bind (q852 hN x[i] r ⟨hr0,by omega⟩ hfi ()) ?_);rintro ⟨r2,v⟩ ⟨h2,h3⟩;dsimp only at h2 h3 |-;refine rg ?_ ?_ <;> intro h4
  .exact rb ⟨by show (-1:Int)<=room; omega,fun h=>absurd h (by decide)⟩
  .exact hn _ _ ⟨by omega,by omega,q14 hI fun _=>h3 (by omega)⟩
 .rintro r t next ⟨hr0,hr,hI⟩
  dsimp only;refine rf ?_ (rb ⟨by show r<=room; omega,fun _=>⟨by omega,q13.2 fun j hj=>hI j hj hj⟩⟩);omega
theorem q686{N:Nat}(hN:HN N)(x:DLibrary)(room:Int)(h:0<=room/\room<=1048576)(hf:(TLibrary:Ty).fits x)(u:Unit):Ret (F_9 N (x,room,u)) (fun r=>r.1<=room/\(0<=r.1->(x.1.length<4000000/\∀ e0∈x.1,(e0.1.size<4000000)/\(e0.2.2.1.length<4000000/\∀ e1∈e0.2.2.1,(e1.1.size<4000000))/\(e0.2.2.2.1.length<4000000/\∀ e1∈e0.2.2.2.1,(e1.2.2.2.2.1.length<4000000/\∀ e2∈e1.2.2.2.2.1,(e2.1.length<4000000)/\(e2.2.1.length<4000000)/\(e2.2.2.1.length<4000000))/\(e1.2.2.2.2.2.1.length<4000000/\∀ e2∈e1.2.2.2.2.2.1,(e2.1.length<4000000)/\(e2.2.1.length<4000000)/\(e2.2.2.1.length<4000000)))/\(e0.2.2.2.2.1.length<4000000)))):=by
 have hm:=q33;unfold F_9;dsimp only;have hf0:=hf.1;refine Ret.bind (q779 hN x.1 room ⟨by omega,by omega⟩ hf0 ()) ?_;rintro ⟨r0,v0⟩ ⟨a0,b0⟩;dsimp only at a0 b0 |-;refine rg ?_ ?_ <;> intro g0
 .exact rb ⟨by show (-1:Int)<=room; omega,fun h=>absurd h (by decide)⟩
 exact rb ⟨by show r0<=room; omega,fun _=>b0 (by omega)⟩
theorem q610{N:Nat}(hN:HN N)(x:DInstance)(room:Int)(h:0<=room/\room<=1048576)(hf:(TInstance:Ty).fits x)(u:Unit):Ret (F_10 N (x,room,u)) (fun r=>r.1<=room/\(0<=r.1->(x.1.size<4000000)/\(x.2.2.1.length<4000000))):=by
 have hm:=q33;unfold F_10;dsimp only;have hf0:=hf.1;rw[wrapI (n:=room - (x.1.size:Int)) (by omega) (by omega)];refine rg ?_ ?_ <;> intro g0
 .exact rb ⟨by show (-1:Int)<=room; omega,fun h=>absurd h (by decide)⟩
 have hf1:=hf.2.2.1;refine Ret.bind (q78 hN x.2.2.1 (room - (x.1.size:Int)) ⟨by omega,by omega⟩ hf1 ()) ?_;rintro ⟨r1,v1⟩ ⟨a1,b1⟩;dsimp only at a1 b1 |-;refine rg ?_ ?_ <;> intro g1
 .exact rb ⟨by show (-1:Int)<=room; omega,fun h=>absurd h (by decide)⟩
 exact rb ⟨by show r1<=room; omega,fun _=>⟨(by omega),b1 (by omega)⟩⟩
theorem q492{N:Nat}(hN:HN N)(x:List DInstance)(room:Int)(h:0<=room/\room<=1048576)(hf:((.slice TInstance):Ty).fits x)(u:Unit):Ret (F_11 N (x,room,u)) (fun r=>r.1<=room/\(0<=r.1->x.length<4000000/\∀ e0∈x,(e0.1.size<4000000)/\(e0.2.2.1.length<4000000))):=by
 have hm:=q33;unfold F_11;have hl:=hf.1;dsimp only;rw[wrapI (n:=room - (x.length:Int)) (by omega) (by omega)];refine rg ?_ ?_ <;> intro h1
 .exact rb ⟨by show (-1:Int)<=room; omega,fun h=>absurd h (by decide)⟩
 refine ry 0 x.length (fun i r _=>0<=r/\r<=room - (x.length:Int)/\∀ j,j<i->∀ h:j<x.length,(x[j].1.size<4000000)/\(x[j].2.2.1.length<4000000)) (by omega) (by omega) (by omega) ⟨by omega,by omega,q21⟩ ?_ ?_
 .rintro i r t next _ hi ⟨hr0,hr,hI⟩ hn
  have hfi:=hf.2 _ (aR hi);dsimp only;refine rh ?_ ?_
  .omega
  refine rd hi (Ret.bind (q610 hN x[i] r ⟨hr0,by omega⟩ hfi ()) ?_);rintro ⟨r2,v⟩ ⟨h2,h3⟩;dsimp only at h2 h3 |-;refine rg ?_ ?_ <;> intro h4
  .exact rb ⟨by show (-1:Int)<=room; omega,fun h=>absurd h (by decide)⟩
  .exact hn _ _ ⟨by omega,by omega,q14 hI fun _=>h3 (by omega)⟩
 .rintro r t next ⟨hr0,hr,hI⟩
  dsimp only;refine rf ?_ (rb ⟨by show r<=room; omega,fun _=>⟨by omega,q13.2 fun j hj=>hI j hj hj⟩⟩);omega
theorem q680{N:Nat}(hN:HN N)(x:List (ByteArray))(room:Int)(h:0<=room/\room<=1048576)(hf:((.slice (.str)):Ty).fits x)(u:Unit):Ret (F_12 N (x,room,u)) (fun r=>r.1<=room/\(0<=r.1->x.length<4000000/\∀ e0∈x,e0.size<4000000)):=by
 have hm:=q33;unfold F_12;have hl:=hf.1;dsimp only;rw[wrapI (n:=room - (x.length:Int)) (by omega) (by omega)];refine rg ?_ ?_ <;> intro h1
 .exact rb ⟨by show (-1:Int)<=room; omega,fun h=>absurd h (by decide)⟩
 refine ry 0 x.length (fun i r _=>0<=r/\r<=room - (x.length:Int)/\∀ j,j<i->∀ h:j<x.length,x[j].size<4000000) (by omega) (by omega) (by omega) ⟨by omega,by omega,q21⟩ ?_ ?_
 .rintro i r t next _ hi ⟨hr0,hr,hI⟩ hn
  have hfi:=hf.2 _ (aR hi);dsimp only;refine rh ?_ ?_
  .omega
  refine rd hi ?_;have hfi:x[i].size<=maxLen:=hfi;rw[wrapI (n:=r - (x[i].size:Int)) (by omega) (by omega)];refine rg ?_ ?_ <;> intro h2
  .exact rb ⟨by show (-1:Int)<=room; omega,fun h=>absurd h (by decide)⟩
  .exact hn _ _ ⟨by omega,by omega,q14 hI fun _=>by omega⟩
 .rintro r t next ⟨hr0,hr,hI⟩
  dsimp only;refine rf ?_ (rb ⟨by show r<=room; omega,fun _=>⟨by omega,q13.2 fun j hj=>hI j hj hj⟩⟩);omega
theorem q834{N:Nat}(hN:HN N)(x:DPort)(room:Int)(h:0<=room/\room<=1048576)(hf:(TPort:Ty).fits x)(u:Unit):Ret (F_13 N (x,room,u)) (fun r=>r.1<=room/\(0<=r.1->(x.1.size<4000000))):=by
 have hm:=q33;unfold F_13;dsimp only;have hf0:=hf.1;rw[wrapI (n:=room - (x.1.size:Int)) (by omega) (by omega)];refine rg ?_ ?_ <;> intro g0
 .exact rb ⟨by show (-1:Int)<=room; omega,fun h=>absurd h (by decide)⟩
 exact rb ⟨by show (room - (x.1.size:Int))<=room; omega,fun _=>(by omega)⟩
theorem q816{N:Nat}(hN:HN N)(x:List DPort)(room:Int)(h:0<=room/\room<=1048576)(hf:((.slice TPort):Ty).fits x)(u:Unit):Ret (F_14 N (x,room,u)) (fun r=>r.1<=room/\(0<=r.1->x.length<4000000/\∀ e0∈x,(e0.1.size<4000000))):=by
 have hm:=q33;unfold F_14;have hl:=hf.1;dsimp only;rw[wrapI (n:=room - (x.length:Int)) (by omega) (by omega)];refine rg ?_ ?_ <;> intro h1
 .exact rb ⟨by show (-1:Int)<=room; omega,fun h=>absurd h (by decide)⟩
 refine ry 0 x.length (fun i r _=>0<=r/\r<=room - (x.length:Int)/\∀ j,j<i->∀ h:j<x.length,(x[j].1.size<4000000)) (by omega) (by omega) (by omega) ⟨by omega,by omega,q21⟩ ?_ ?_
 .rintro i r t next _ hi ⟨hr0,hr,hI⟩ hn
  have hfi:=hf.2 _ (aR hi);dsimp only;refine rh ?_ ?_
  .omega
  refine rd hi (Ret.bind (q834 hN x[i] r ⟨hr0,by omega⟩ hfi ()) ?_);rintro ⟨r2,v⟩ ⟨h2,h3⟩;dsimp only at h2 h3 |-;refine rg ?_ ?_ <;> intro h4
  .exact rb ⟨by show (-1:Int)<=room; omega,fun h=>absurd h (by decide)⟩
  .exact hn _ _ ⟨by omega,by omega,q14 hI fun _=>h3 (by omega)⟩
 .rintro r t next ⟨hr0,hr,hI⟩
  dsimp only;refine rf ?_ (rb ⟨by show r<=room; omega,fun _=>⟨by omega,q13.2 fun j hj=>hI j hj hj⟩⟩);omega
theorem q712{N:Nat}(hN:HN N)(x:DDesign)(room:Int)(h:0<=room/\room<=1048576)(hf:(TDesign:Ty).fits x)(u:Unit):Ret (F_15 N (x,room,u)) (fun r=>r.1<=room/\(0<=r.1->(x.1.length<4000000/\∀ e0∈x.1,(e0.1.size<4000000)/\(e0.2.2.1.length<4000000))/\(x.2.1.length<4000000/\∀ e0∈x.2.1,e0.size<4000000)/\(x.2.2.1.length<4000000/\∀ e0∈x.2.2.1,(e0.1.size<4000000)))):=by
 have hm:=q33;unfold F_15;dsimp only;have hf0:=hf.1;refine Ret.bind (q492 hN x.1 room ⟨by omega,by omega⟩ hf0 ()) ?_;rintro ⟨r0,v0⟩ ⟨a0,b0⟩;dsimp only at a0 b0 |-;refine rg ?_ ?_ <;> intro g0
 .exact rb ⟨by show (-1:Int)<=room; omega,fun h=>absurd h (by decide)⟩
 have hf1:=hf.2.1;refine Ret.bind (q680 hN x.2.1 r0 ⟨by omega,by omega⟩ hf1 ()) ?_;rintro ⟨r1,v1⟩ ⟨a1,b1⟩;dsimp only at a1 b1 |-;refine rg ?_ ?_ <;> intro g1
 .exact rb ⟨by show (-1:Int)<=room; omega,fun h=>absurd h (by decide)⟩
 have hf2:=hf.2.2.1;refine Ret.bind (q816 hN x.2.2.1 r1 ⟨by omega,by omega⟩ hf2 ()) ?_;rintro ⟨r2,v2⟩ ⟨a2,b2⟩;dsimp only at a2 b2 |-;refine rg ?_ ?_ <;> intro g2
 .exact rb ⟨by show (-1:Int)<=room; omega,fun h=>absurd h (by decide)⟩
 exact rb ⟨by show r2<=room; omega,fun _=>⟨b0 (by omega),b1 (by omega),b2 (by omega)⟩⟩
theorem q832{N:Nat}(hN:HN N)(x:DWire)(room:Int)(h:0<=room/\room<=1048576)(hf:(TWire:Ty).fits x)(u:Unit):Ret (F_16 N (x,room,u)) (fun r=>r.1<=room/\(0<=r.1->(x.1.length<4000000)/\(x.2.1.length<4000000)/\(x.2.2.1.length<4000000)/\(x.2.2.2.1.length<4000000))):=by
 have hm:=q33;unfold F_16;dsimp only;have hf0:=hf.1;refine Ret.bind (q78 hN x.1 room ⟨by omega,by omega⟩ hf0 ()) ?_;rintro ⟨r0,v0⟩ ⟨a0,b0⟩;dsimp only at a0 b0 |-;refine rg ?_ ?_ <;> intro g0
 .exact rb ⟨by show (-1:Int)<=room; omega,fun h=>absurd h (by decide)⟩
 have hf1:=hf.2.1;refine Ret.bind (q78 hN x.2.1 r0 ⟨by omega,by omega⟩ hf1 ()) ?_;rintro ⟨r1,v1⟩ ⟨a1,b1⟩;dsimp only at a1 b1 |-;refine rg ?_ ?_ <;> intro g1
 .exact rb ⟨by show (-1:Int)<=room; omega,fun h=>absurd h (by decide)⟩
 have hf2:=hf.2.2.1;refine Ret.bind (q78 hN x.2.2.1 r1 ⟨by omega,by omega⟩ hf2 ()) ?_;rintro ⟨r2,v2⟩ ⟨a2,b2⟩;dsimp only at a2 b2 |-;refine rg ?_ ?_ <;> intro g2
 .exact rb ⟨by show (-1:Int)<=room; omega,fun h=>absurd h (by decide)⟩
 have hf3:=hf.2.2.2.1;refine Ret.bind (q78 hN x.2.2.2.1 r2 ⟨by omega,by omega⟩ hf3 ()) ?_;rintro ⟨r3,v3⟩ ⟨a3,b3⟩;dsimp only at a3 b3 |-;refine rg ?_ ?_ <;> intro g3
 .exact rb ⟨by show (-1:Int)<=room; omega,fun h=>absurd h (by decide)⟩
 exact rb ⟨by show r3<=room; omega,fun _=>⟨b0 (by omega),b1 (by omega),b2 (by omega),b3 (by omega)⟩⟩
theorem q777{N:Nat}(hN:HN N)(x:List DWire)(room:Int)(h:0<=room/\room<=1048576)(hf:((.slice TWire):Ty).fits x)(u:Unit):Ret (F_17 N (x,room,u)) (fun r=>r.1<=room/\(0<=r.1->x.length<4000000/\∀ e0∈x,(e0.1.length<4000000)/\(e0.2.1.length<4000000)/\(e0.2.2.1.length<4000000)/\(e0.2.2.2.1.length<4000000))):=by
 have hm:=q33;unfold F_17;have hl:=hf.1;dsimp only;rw[wrapI (n:=room - (x.length:Int)) (by omega) (by omega)];refine rg ?_ ?_ <;> intro h1
 .exact rb ⟨by show (-1:Int)<=room; omega,fun h=>absurd h (by decide)⟩
 refine ry 0 x.length (fun i r _=>0<=r/\r<=room - (x.length:Int)/\∀ j,j<i->∀ h:j<x.length,(x[j].1.length<4000000)/\(x[j].2.1.length<4000000)/\(x[j].2.2.1.length<4000000)/\(x[j].2.2.2.1.length<4000000)) (by omega) (by omega) (by omega) ⟨by omega,by omega,q21⟩ ?_ ?_
 .rintro i r t next _ hi ⟨hr0,hr,hI⟩ hn
  have hfi:=hf.2 _ (aR hi);dsimp only;refine rh ?_ ?_
  .omega
  refine rd hi (Ret.bind (q832 hN x[i] r ⟨hr0,by omega⟩ hfi ()) ?_);rintro ⟨r2,v⟩ ⟨h2,h3⟩;dsimp only at h2 h3 |-;refine rg ?_ ?_ <;> intro h4
  .exact rb ⟨by show (-1:Int)<=room; omega,fun h=>absurd h (by decide)⟩
  .exact hn _ _ ⟨by omega,by omega,q14 hI fun _=>h3 (by omega)⟩
 .rintro r t next ⟨hr0,hr,hI⟩
  dsimp only;refine rf ?_ (rb ⟨by show r<=room; omega,fun _=>⟨by omega,q13.2 fun j hj=>hI j hj hj⟩⟩);omega
theorem q803{N:Nat}(hN:HN N)(x:DBlock)(room:Int)(h:0<=room/\room<=1048576)(hf:(TBlock:Ty).fits x)(u:Unit):Ret (F_18 N (x,room,u)) (fun r=>r.1<=room/\(0<=r.1->((x.1.1.length<4000000/\∀ e0∈x.1.1,(e0.1.size<4000000)/\(e0.2.2.1.length<4000000/\∀ e1∈e0.2.2.1,(e1.1.size<4000000))/\(e0.2.2.2.1.length<4000000/\∀ e1∈e0.2.2.2.1,(e1.2.2.2.2.1.length<4000000/\∀ e2∈e1.2.2.2.2.1,(e2.1.length<4000000)/\(e2.2.1.length<4000000)/\(e2.2.2.1.length<4000000))/\(e1.2.2.2.2.2.1.length<4000000/\∀ e2∈e1.2.2.2.2.2.1,(e2.1.length<4000000)/\(e2.2.1.length<4000000)/\(e2.2.2.1.length<4000000)))/\(e0.2.2.2.2.1.length<4000000)))/\((x.2.1.1.length<4000000/\∀ e0∈x.2.1.1,(e0.1.size<4000000)/\(e0.2.2.1.length<4000000))/\(x.2.1.2.1.length<4000000/\∀ e0∈x.2.1.2.1,e0.size<4000000)/\(x.2.1.2.2.1.length<4000000/\∀ e0∈x.2.1.2.2.1,(e0.1.size<4000000)))/\(x.2.2.1.length<4000000/\∀ e0∈x.2.2.1,(e0.1.length<4000000)/\(e0.2.1.length<4000000)/\(e0.2.2.1.length<4000000)/\(e0.2.2.2.1.length<4000000)))):=by
 have hm:=q33;unfold F_18;dsimp only;have hf0:=hf.1;refine Ret.bind (q686 hN x.1 room ⟨by omega,by omega⟩ hf0 ()) ?_;rintro ⟨r0,v0⟩ ⟨a0,b0⟩;dsimp only at a0 b0 |-;refine rg ?_ ?_ <;> intro g0
 .exact rb ⟨by show (-1:Int)<=room; omega,fun h=>absurd h (by decide)⟩
 have hf1:=hf.2.1;refine Ret.bind (q712 hN x.2.1 r0 ⟨by omega,by omega⟩ hf1 ()) ?_;rintro ⟨r1,v1⟩ ⟨a1,b1⟩;dsimp only at a1 b1 |-;refine rg ?_ ?_ <;> intro g1
 .exact rb ⟨by show (-1:Int)<=room; omega,fun h=>absurd h (by decide)⟩
 have hf2:=hf.2.2.1;refine Ret.bind (q777 hN x.2.2.1 r1 ⟨by omega,by omega⟩ hf2 ()) ?_;rintro ⟨r2,v2⟩ ⟨a2,b2⟩;dsimp only at a2 b2 |-;refine rg ?_ ?_ <;> intro g2
 .exact rb ⟨by show (-1:Int)<=room; omega,fun h=>absurd h (by decide)⟩
 exact rb ⟨by show r2<=room; omega,fun _=>⟨b0 (by omega),b1 (by omega),b2 (by omega)⟩⟩
theorem q739{N:Nat}(hN:HN N)(x:DCorner)(room:Int)(h:0<=room/\room<=1048576)(hf:(TCorner:Ty).fits x)(u:Unit):Ret (F_19 N (x,room,u)) (fun r=>r.1<=room/\(0<=r.1->(x.1.size<4000000))):=by
 have hm:=q33;unfold F_19;dsimp only;have hf0:=hf.1;rw[wrapI (n:=room - (x.1.size:Int)) (by omega) (by omega)];refine rg ?_ ?_ <;> intro g0
 .exact rb ⟨by show (-1:Int)<=room; omega,fun h=>absurd h (by decide)⟩
 exact rb ⟨by show (room - (x.1.size:Int))<=room; omega,fun _=>(by omega)⟩
theorem q685{N:Nat}(hN:HN N)(x:List DSource)(room:Int)(h:0<=room/\room<=1048576)(hf:((.slice TSource):Ty).fits x)(u:Unit):Ret (F_20 N (x,room,u)) (fun r=>r.1<=room/\(0<=r.1->x.length<4000000)):=by
 have hm:=q33;unfold F_20;have hl:=hf.1;dsimp only;rw[wrapI (n:=room - (x.length:Int)) (by omega) (by omega)];refine rg ?_ ?_ <;> intro h1
 .exact rb ⟨by show (-1:Int)<=room; omega,fun h=>absurd h (by decide)⟩
 .exact rb ⟨by show room - (x.length:Int)<=room; omega,fun _=>by omega⟩
theorem sz_Job{N:Nat}(hN:HN N)(x:DJob)(room:Int)(h:0<=room/\room<=1048576)(hf:(TJob:Ty).fits x)(u:Unit):Ret (F_21 N (x,room,u)) (fun r=>r.1<=room/\(0<=r.1->(((x.1.1.1.length<4000000/\∀ e0∈x.1.1.1,(e0.1.size<4000000)/\(e0.2.2.1.length<4000000/\∀ e1∈e0.2.2.1,(e1.1.size<4000000))/\(e0.2.2.2.1.length<4000000/\∀ e1∈e0.2.2.2.1,(e1.2.2.2.2.1.length<4000000/\∀ e2∈e1.2.2.2.2.1,(e2.1.length<4000000)/\(e2.2.1.length<4000000)/\(e2.2.2.1.length<4000000))/\(e1.2.2.2.2.2.1.length<4000000/\∀ e2∈e1.2.2.2.2.2.1,(e2.1.length<4000000)/\(e2.2.1.length<4000000)/\(e2.2.2.1.length<4000000)))/\(e0.2.2.2.2.1.length<4000000)))/\((x.1.2.1.1.length<4000000/\∀ e0∈x.1.2.1.1,(e0.1.size<4000000)/\(e0.2.2.1.length<4000000))/\(x.1.2.1.2.1.length<4000000/\∀ e0∈x.1.2.1.2.1,e0.size<4000000)/\(x.1.2.1.2.2.1.length<4000000/\∀ e0∈x.1.2.1.2.2.1,(e0.1.size<4000000)))/\(x.1.2.2.1.length<4000000/\∀ e0∈x.1.2.2.1,(e0.1.length<4000000)/\(e0.2.1.length<4000000)/\(e0.2.2.1.length<4000000)/\(e0.2.2.2.1.length<4000000)))/\((x.2.1.1.size<4000000))/\(x.2.2.1.length<4000000)/\(x.2.2.2.1.length<4000000))):=by
 have hm:=q33;unfold F_21;dsimp only;have hf0:=hf.1;refine Ret.bind (q803 hN x.1 room ⟨by omega,by omega⟩ hf0 ()) ?_;rintro ⟨r0,v0⟩ ⟨a0,b0⟩;dsimp only at a0 b0 |-;refine rg ?_ ?_ <;> intro g0
 .exact rb ⟨by show (-1:Int)<=room; omega,fun h=>absurd h (by decide)⟩
 have hf1:=hf.2.1;refine Ret.bind (q739 hN x.2.1 r0 ⟨by omega,by omega⟩ hf1 ()) ?_;rintro ⟨r1,v1⟩ ⟨a1,b1⟩;dsimp only at a1 b1 |-;refine rg ?_ ?_ <;> intro g1
 .exact rb ⟨by show (-1:Int)<=room; omega,fun h=>absurd h (by decide)⟩
 have hf2:=hf.2.2.1;refine Ret.bind (q78 hN x.2.2.1 r1 ⟨by omega,by omega⟩ hf2 ()) ?_;rintro ⟨r2,v2⟩ ⟨a2,b2⟩;dsimp only at a2 b2 |-;refine rg ?_ ?_ <;> intro g2
 .exact rb ⟨by show (-1:Int)<=room; omega,fun h=>absurd h (by decide)⟩
 have hf3:=hf.2.2.2.1;refine Ret.bind (q685 hN x.2.2.2.1 r2 ⟨by omega,by omega⟩ hf3 ()) ?_;rintro ⟨r3,v3⟩ ⟨a3,b3⟩;dsimp only at a3 b3 |-;refine rg ?_ ?_ <;> intro g3
 .exact rb ⟨by show (-1:Int)<=room; omega,fun h=>absurd h (by decide)⟩
 exact rb ⟨by show r3<=room; omega,fun _=>⟨b0 (by omega),b1 (by omega),b2 (by omega),b3 (by omega)⟩⟩
theorem to_Pin{N:Nat}(hN:HN N)(x:DPin)(hs:(x.1.size<4000000))(u:Unit):F_22 N (x,u)=some (x,()):=by unfold F_22;rfl
theorem q838{N:Nat}(hN:HN N)(x:List DPin)(hs:x.length<4000000/\∀ e0∈x,(e0.1.size<4000000))(u:Unit):F_23 N (x,u)=some (x,()):=by unfold F_23;have hl:=hs.1;refine (q65 hl).trans ?_;exact q110 _ (fun e=>F_22 N (e,())) (fun e he=>to_Pin hN e (hs.2 e he) ()) hl hN
theorem q77{N:Nat}(hN:HN N)(x:List (Int))(hs:x.length<4000000)(u:Unit):F_24 N (x,u)=some (x,()):=by unfold F_24;have hl:=hs;refine (q65 hl).trans ?_;exact q733 _ hl hN
theorem q804{N:Nat}(hN:HN N)(x:DTable)(hs:(x.1.length<4000000)/\(x.2.1.length<4000000)/\(x.2.2.1.length<4000000))(u:Unit):F_25 N (x,u)=some (x,()):=by unfold F_25;refine (q27 (q77 hN x.1 (hs.1) ())).trans ?_;refine (q27 (q77 hN x.2.1 (hs.2.1) ())).trans ?_;refine (q27 (q77 hN x.2.2.1 (hs.2.2) ())).trans ?_;rfl
theorem q539{N:Nat}(hN:HN N)(x:List DTable)(hs:x.length<4000000/\∀ e0∈x,(e0.1.length<4000000)/\(e0.2.1.length<4000000)/\(e0.2.2.1.length<4000000))(u:Unit):F_26 N (x,u)=some (x,()):=by unfold F_26;have hl:=hs.1;refine (q65 hl).trans ?_;exact q110 _ (fun e=>F_25 N (e,())) (fun e he=>q804 hN e (hs.2 e he) ()) hl hN
theorem to_Arc{N:Nat}(hN:HN N)(x:DArc)(hs:(x.2.2.2.2.1.length<4000000/\∀ e0∈x.2.2.2.2.1,(e0.1.length<4000000)/\(e0.2.1.length<4000000)/\(e0.2.2.1.length<4000000))/\(x.2.2.2.2.2.1.length<4000000/\∀ e0∈x.2.2.2.2.2.1,(e0.1.length<4000000)/\(e0.2.1.length<4000000)/\(e0.2.2.1.length<4000000)))(u:Unit):F_27 N (x,u)=some (x,()):=by unfold F_27;refine (q27 (q539 hN x.2.2.2.2.1 (hs.1) ())).trans ?_;refine (q27 (q539 hN x.2.2.2.2.2.1 (hs.2) ())).trans ?_;rfl
theorem q828{N:Nat}(hN:HN N)(x:List DArc)(hs:x.length<4000000/\∀ e0∈x,(e0.2.2.2.2.1.length<4000000/\∀ e1∈e0.2.2.2.2.1,(e1.1.length<4000000)/\(e1.2.1.length<4000000)/\(e1.2.2.1.length<4000000))/\(e0.2.2.2.2.2.1.length<4000000/\∀ e1∈e0.2.2.2.2.2.1,(e1.1.length<4000000)/\(e1.2.1.length<4000000)/\(e1.2.2.1.length<4000000)))(u:Unit):F_28 N (x,u)=some (x,()):=by unfold F_28;have hl:=hs.1;refine (q65 hl).trans ?_;exact q110 _ (fun e=>F_27 N (e,())) (fun e he=>to_Arc hN e (hs.2 e he) ()) hl hN
theorem q822{N:Nat}(hN:HN N)(x:DCell)(hs:(x.1.size<4000000)/\(x.2.2.1.length<4000000/\∀ e0∈x.2.2.1,(e0.1.size<4000000))/\(x.2.2.2.1.length<4000000/\∀ e0∈x.2.2.2.1,(e0.2.2.2.2.1.length<4000000/\∀ e1∈e0.2.2.2.2.1,(e1.1.length<4000000)/\(e1.2.1.length<4000000)/\(e1.2.2.1.length<4000000))/\(e0.2.2.2.2.2.1.length<4000000/\∀ e1∈e0.2.2.2.2.2.1,(e1.1.length<4000000)/\(e1.2.1.length<4000000)/\(e1.2.2.1.length<4000000)))/\(x.2.2.2.2.1.length<4000000))(u:Unit):F_29 N (x,u)=some (x,()):=by unfold F_29;refine (q27 (q838 hN x.2.2.1 (hs.2.1) ())).trans ?_;refine (q27 (q828 hN x.2.2.2.1 (hs.2.2.1) ())).trans ?_;refine (q27 (q77 hN x.2.2.2.2.1 (hs.2.2.2) ())).trans ?_;rfl
theorem q783{N:Nat}(hN:HN N)(x:List DCell)(hs:x.length<4000000/\∀ e0∈x,(e0.1.size<4000000)/\(e0.2.2.1.length<4000000/\∀ e1∈e0.2.2.1,(e1.1.size<4000000))/\(e0.2.2.2.1.length<4000000/\∀ e1∈e0.2.2.2.1,(e1.2.2.2.2.1.length<4000000/\∀ e2∈e1.2.2.2.2.1,(e2.1.length<4000000)/\(e2.2.1.length<4000000)/\(e2.2.2.1.length<4000000))/\(e1.2.2.2.2.2.1.length<4000000/\∀ e2∈e1.2.2.2.2.2.1,(e2.1.length<4000000)/\(e2.2.1.length<4000000)/\(e2.2.2.1.length<4000000)))/\(e0.2.2.2.2.1.length<4000000))(u:Unit):F_30 N (x,u)=some (x,()):=by unfold F_30;have hl:=hs.1;refine (q65 hl).trans ?_;exact q110 _ (fun e=>F_29 N (e,())) (fun e he=>q822 hN e (hs.2 e he) ()) hl hN
theorem q689{N:Nat}(hN:HN N)(x:DLibrary)(hs:(x.1.length<4000000/\∀ e0∈x.1,(e0.1.size<4000000)/\(e0.2.2.1.length<4000000/\∀ e1∈e0.2.2.1,(e1.1.size<4000000))/\(e0.2.2.2.1.length<4000000/\∀ e1∈e0.2.2.2.1,(e1.2.2.2.2.1.length<4000000/\∀ e2∈e1.2.2.2.2.1,(e2.1.length<4000000)/\(e2.2.1.length<4000000)/\(e2.2.2.1.length<4000000))/\(e1.2.2.2.2.2.1.length<4000000/\∀ e2∈e1.2.2.2.2.2.1,(e2.1.length<4000000)/\(e2.2.1.length<4000000)/\(e2.2.2.1.length<4000000)))/\(e0.2.2.2.2.1.length<4000000)))(u:Unit):F_31 N (x,u)=some (x,()):=by unfold F_31;refine (q27 (q783 hN x.1 (hs) ())).trans ?_;rfl
theorem q592{N:Nat}(hN:HN N)(x:DInstance)(hs:(x.1.size<4000000)/\(x.2.2.1.length<4000000))(u:Unit):F_32 N (x,u)=some (x,()):=by unfold F_32;refine (q27 (q77 hN x.2.2.1 (hs.2) ())).trans ?_;rfl
theorem q548{N:Nat}(hN:HN N)(x:List DInstance)(hs:x.length<4000000/\∀ e0∈x,(e0.1.size<4000000)/\(e0.2.2.1.length<4000000))(u:Unit):F_33 N (x,u)=some (x,()):=by unfold F_33;have hl:=hs.1;refine (q65 hl).trans ?_;exact q110 _ (fun e=>F_32 N (e,())) (fun e he=>q592 hN e (hs.2 e he) ()) hl hN
theorem q671{N:Nat}(hN:HN N)(x:List (ByteArray))(hs:x.length<4000000/\∀ e0∈x,e0.size<4000000)(u:Unit):F_34 N (x,u)=some (x,()):=by unfold F_34;have hl:=hs.1;refine (q65 hl).trans ?_;exact q733 _ hl hN
theorem q823{N:Nat}(hN:HN N)(x:DPort)(hs:(x.1.size<4000000))(u:Unit):F_35 N (x,u)=some (x,()):=by unfold F_35;rfl
theorem q815{N:Nat}(hN:HN N)(x:List DPort)(hs:x.length<4000000/\∀ e0∈x,(e0.1.size<4000000))(u:Unit):F_36 N (x,u)=some (x,()):=by unfold F_36;have hl:=hs.1;refine (q65 hl).trans ?_;exact q110 _ (fun e=>F_35 N (e,())) (fun e he=>q823 hN e (hs.2 e he) ()) hl hN
theorem q752{N:Nat}(hN:HN N)(x:DDesign)(hs:(x.1.length<4000000/\∀ e0∈x.1,(e0.1.size<4000000)/\(e0.2.2.1.length<4000000))/\(x.2.1.length<4000000/\∀ e0∈x.2.1,e0.size<4000000)/\(x.2.2.1.length<4000000/\∀ e0∈x.2.2.1,(e0.1.size<4000000)))(u:Unit):F_37 N (x,u)=some (x,()):=by unfold F_37;refine (q27 (q548 hN x.1 (hs.1) ())).trans ?_;refine (q27 (q671 hN x.2.1 (hs.2.1) ())).trans ?_;refine (q27 (q815 hN x.2.2.1 (hs.2.2) ())).trans ?_;rfl
theorem q842{N:Nat}(hN:HN N)(x:DWire)(hs:(x.1.length<4000000)/\(x.2.1.length<4000000)/\(x.2.2.1.length<4000000)/\(x.2.2.2.1.length<4000000))(u:Unit):F_38 N (x,u)=some (x,()):=by unfold F_38;refine (q27 (q77 hN x.1 (hs.1) ())).trans ?_;refine (q27 (q77 hN x.2.1 (hs.2.1) ())).trans ?_;refine (q27 (q77 hN x.2.2.1 (hs.2.2.1) ())).trans ?_;refine (q27 (q77 hN x.2.2.2.1 (hs.2.2.2) ())).trans ?_;rfl
theorem q792{N:Nat}(hN:HN N)(x:List DWire)(hs:x.length<4000000/\∀ e0∈x,(e0.1.length<4000000)/\(e0.2.1.length<4000000)/\(e0.2.2.1.length<4000000)/\(e0.2.2.2.1.length<4000000))(u:Unit):F_39 N (x,u)=some (x,()):=by unfold F_39;have hl:=hs.1;refine (q65 hl).trans ?_;exact q110 _ (fun e=>F_38 N (e,())) (fun e he=>q842 hN e (hs.2 e he) ()) hl hN
theorem q778{N:Nat}(hN:HN N)(x:DBlock)(hs:((x.1.1.length<4000000/\∀ e0∈x.1.1,(e0.1.size<4000000)/\(e0.2.2.1.length<4000000/\∀ e1∈e0.2.2.1,(e1.1.size<4000000))/\(e0.2.2.2.1.length<4000000/\∀ e1∈e0.2.2.2.1,(e1.2.2.2.2.1.length<4000000/\∀ e2∈e1.2.2.2.2.1,(e2.1.length<4000000)/\(e2.2.1.length<4000000)/\(e2.2.2.1.length<4000000))/\(e1.2.2.2.2.2.1.length<4000000/\∀ e2∈e1.2.2.2.2.2.1,(e2.1.length<4000000)/\(e2.2.1.length<4000000)/\(e2.2.2.1.length<4000000)))/\(e0.2.2.2.2.1.length<4000000)))/\((x.2.1.1.length<4000000/\∀ e0∈x.2.1.1,(e0.1.size<4000000)/\(e0.2.2.1.length<4000000))/\(x.2.1.2.1.length<4000000/\∀ e0∈x.2.1.2.1,e0.size<4000000)/\(x.2.1.2.2.1.length<4000000/\∀ e0∈x.2.1.2.2.1,(e0.1.size<4000000)))/\(x.2.2.1.length<4000000/\∀ e0∈x.2.2.1,(e0.1.length<4000000)/\(e0.2.1.length<4000000)/\(e0.2.2.1.length<4000000)/\(e0.2.2.2.1.length<4000000)))(u:Unit):F_40 N (x,u)=some (x,()):=by unfold F_40;refine (q27 (q689 hN x.1 (hs.1) ())).trans ?_;refine (q27 (q752 hN x.2.1 (hs.2.1) ())).trans ?_;refine (q27 (q792 hN x.2.2.1 (hs.2.2) ())).trans ?_;rfl
theorem q734{N:Nat}(hN:HN N)(x:DCorner)(hs:(x.1.size<4000000))(u:Unit):F_41 N (x,u)=some (x,()):=by unfold F_41;rfl
theorem q722{N:Nat}(hN:HN N)(x:DSpan)(hs:True)(u:Unit):F_42 N (x,u)=some (x,()):=by unfold F_42;rfl
theorem q717{N:Nat}(hN:HN N)(x:DSource)(hs:True)(u:Unit):F_43 N (x,u)=some (x,()):=by unfold F_43;refine (q27 (q722 hN x.2.1 trivial ())).trans ?_;refine (q27 (q722 hN x.2.2.1 trivial ())).trans ?_;rfl
theorem q687{N:Nat}(hN:HN N)(x:List DSource)(hs:x.length<4000000)(u:Unit):F_44 N (x,u)=some (x,()):=by unfold F_44;have hl:=hs;refine (q65 hl).trans ?_;exact q110 _ (fun e=>F_43 N (e,())) (fun e he=>q717 hN e trivial ()) hl hN
theorem to_Job{N:Nat}(hN:HN N)(x:DJob)(hs:(((x.1.1.1.length<4000000/\∀ e0∈x.1.1.1,(e0.1.size<4000000)/\(e0.2.2.1.length<4000000/\∀ e1∈e0.2.2.1,(e1.1.size<4000000))/\(e0.2.2.2.1.length<4000000/\∀ e1∈e0.2.2.2.1,(e1.2.2.2.2.1.length<4000000/\∀ e2∈e1.2.2.2.2.1,(e2.1.length<4000000)/\(e2.2.1.length<4000000)/\(e2.2.2.1.length<4000000))/\(e1.2.2.2.2.2.1.length<4000000/\∀ e2∈e1.2.2.2.2.2.1,(e2.1.length<4000000)/\(e2.2.1.length<4000000)/\(e2.2.2.1.length<4000000)))/\(e0.2.2.2.2.1.length<4000000)))/\((x.1.2.1.1.length<4000000/\∀ e0∈x.1.2.1.1,(e0.1.size<4000000)/\(e0.2.2.1.length<4000000))/\(x.1.2.1.2.1.length<4000000/\∀ e0∈x.1.2.1.2.1,e0.size<4000000)/\(x.1.2.1.2.2.1.length<4000000/\∀ e0∈x.1.2.1.2.2.1,(e0.1.size<4000000)))/\(x.1.2.2.1.length<4000000/\∀ e0∈x.1.2.2.1,(e0.1.length<4000000)/\(e0.2.1.length<4000000)/\(e0.2.2.1.length<4000000)/\(e0.2.2.2.1.length<4000000)))/\((x.2.1.1.size<4000000))/\(x.2.2.1.length<4000000)/\(x.2.2.2.1.length<4000000))(u:Unit):F_45 N (x,u)=some (x,()):=by unfold F_45;refine (q27 (q778 hN x.1 (hs.1) ())).trans ?_;refine (q27 (q734 hN x.2.1 (hs.2.1) ())).trans ?_;refine (q27 (q77 hN x.2.2.1 (hs.2.2.1) ())).trans ?_;refine (q27 (q687 hN x.2.2.2.1 (hs.2.2.2) ())).trans ?_;rfl
theorem eq_Pin{N:Nat}(hN:HN N)(x y:DPin)(hs:(x.1.size<4000000))(u:Unit):F_243 N (x,y,u)=some (dec (x=y),()):=by
 refine Ret.tells ?_;unfold F_243;obtain ⟨x0,x1,x2,x3,ux⟩:=x;obtain ⟨y0,y1,y2,y3,uy⟩:=y;dsimp only;refine rk ?_ ?_ <;> intro g0
 .exact rb (q9.2 (fun h=>g0 (congrArg (fun z=>z.1) h)))
 refine rk ?_ ?_ <;> intro g1
 .exact rb (q9.2 (fun h=>g1 (congrArg (fun z=>z.2.1) h)))
 refine rk ?_ ?_ <;> intro g2
 .exact rb (q9.2 (fun h=>g2 (congrArg (fun z=>z.2.2.1) h)))
 refine rm ?_ ?_ <;> intro g3
 .exact rb (q9.2 fun h=>by have e:=congrArg (fun z=>z.2.2.2.1) h; dsimp only at e; subst e; simp at g3)
 have g3:x3=y3:=by simpa using g3
 subst g0 g1 g2 g3;exact rb (q18.2 rfl)
theorem q819{N:Nat}(hN:HN N)(x y:List DPin)(hs:x.length<4000000/\∀ e0∈x,(e0.1.size<4000000))(u:Unit):F_244 N (x,y,u)=some (dec (x=y),()):=by unfold F_244;exact q91 (fun e f=>F_243 N (e,f,())) (fun e he f _=>eq_Pin hN e f (hs.2 e he) ()) (hs.1) hN
theorem q80{N:Nat}(hN:HN N)(x y:List (Int))(hs:x.length<4000000)(u:Unit):F_245 N (x,y,u)=some (dec (x=y),()):=by unfold F_245;exact q486 (hs) hN
theorem q793{N:Nat}(hN:HN N)(x y:DTable)(hs:(x.1.length<4000000)/\(x.2.1.length<4000000)/\(x.2.2.1.length<4000000))(u:Unit):F_246 N (x,y,u)=some (dec (x=y),()):=by
 refine Ret.tells ?_;unfold F_246;obtain ⟨x0,x1,x2,ux⟩:=x;obtain ⟨y0,y1,y2,uy⟩:=y;dsimp only;refine ra (q80 hN x0 y0 (hs.1) ()) (ri ?_ ?_) <;> intro g0
 .exact rb (q9.2 (fun h=>g0 (congrArg (fun z=>z.1) h)))
 refine ra (q80 hN x1 y1 (hs.2.1) ()) (ri ?_ ?_) <;> intro g1
 .exact rb (q9.2 (fun h=>g1 (congrArg (fun z=>z.2.1) h)))
 refine ra (q80 hN x2 y2 (hs.2.2) ()) (ri ?_ ?_) <;> intro g2
 .exact rb (q9.2 (fun h=>g2 (congrArg (fun z=>z.2.2.1) h)))
 subst g0 g1 g2;exact rb (q18.2 rfl)
theorem q512{N:Nat}(hN:HN N)(x y:List DTable)(hs:x.length<4000000/\∀ e0∈x,(e0.1.length<4000000)/\(e0.2.1.length<4000000)/\(e0.2.2.1.length<4000000))(u:Unit):F_247 N (x,y,u)=some (dec (x=y),()):=by unfold F_247;exact q91 (fun e f=>F_246 N (e,f,())) (fun e he f _=>q793 hN e f (hs.2 e he) ()) (hs.1) hN
theorem eq_Arc{N:Nat}(hN:HN N)(x y:DArc)(hs:(x.2.2.2.2.1.length<4000000/\∀ e0∈x.2.2.2.2.1,(e0.1.length<4000000)/\(e0.2.1.length<4000000)/\(e0.2.2.1.length<4000000))/\(x.2.2.2.2.2.1.length<4000000/\∀ e0∈x.2.2.2.2.2.1,(e0.1.length<4000000)/\(e0.2.1.length<4000000)/\(e0.2.2.1.length<4000000)))(u:Unit):F_248 N (x,y,u)=some (dec (x=y),()):=by
 refine Ret.tells ?_;unfold F_248;obtain ⟨x0,x1,x2,x3,x4,x5,ux⟩:=x;obtain ⟨y0,y1,y2,y3,y4,y5,uy⟩:=y;dsimp only;refine rk ?_ ?_ <;> intro g0
 .exact rb (q9.2 (fun h=>g0 (congrArg (fun z=>z.1) h)))
 refine rk ?_ ?_ <;> intro g1
 .exact rb (q9.2 (fun h=>g1 (congrArg (fun z=>z.2.1) h)))
 refine rk ?_ ?_ <;> intro g2
 .exact rb (q9.2 (fun h=>g2 (congrArg (fun z=>z.2.2.1) h)))
 refine rk ?_ ?_ <;> intro g3
 .exact rb (q9.2 (fun h=>g3 (congrArg (fun z=>z.2.2.2.1) h)))
 refine ra (q512 hN x4 y4 (hs.1) ()) (ri ?_ ?_) <;> intro g4
 .exact rb (q9.2 (fun h=>g4 (congrArg (fun z=>z.2.2.2.2.1) h)))
 refine ra (q512 hN x5 y5 (hs.2) ()) (ri ?_ ?_) <;> intro g5
 .exact rb (q9.2 (fun h=>g5 (congrArg (fun z=>z.2.2.2.2.2.1) h)))
 subst g0 g1 g2 g3 g4 g5;exact rb (q18.2 rfl)
theorem q835{N:Nat}(hN:HN N)(x y:List DArc)(hs:x.length<4000000/\∀ e0∈x,(e0.2.2.2.2.1.length<4000000/\∀ e1∈e0.2.2.2.2.1,(e1.1.length<4000000)/\(e1.2.1.length<4000000)/\(e1.2.2.1.length<4000000))/\(e0.2.2.2.2.2.1.length<4000000/\∀ e1∈e0.2.2.2.2.2.1,(e1.1.length<4000000)/\(e1.2.1.length<4000000)/\(e1.2.2.1.length<4000000)))(u:Unit):F_249 N (x,y,u)=some (dec (x=y),()):=by unfold F_249;exact q91 (fun e f=>F_248 N (e,f,())) (fun e he f _=>eq_Arc hN e f (hs.2 e he) ()) (hs.1) hN
theorem q846{N:Nat}(hN:HN N)(x y:DCell)(hs:(x.1.size<4000000)/\(x.2.2.1.length<4000000/\∀ e0∈x.2.2.1,(e0.1.size<4000000))/\(x.2.2.2.1.length<4000000/\∀ e0∈x.2.2.2.1,(e0.2.2.2.2.1.length<4000000/\∀ e1∈e0.2.2.2.2.1,(e1.1.length<4000000)/\(e1.2.1.length<4000000)/\(e1.2.2.1.length<4000000))/\(e0.2.2.2.2.2.1.length<4000000/\∀ e1∈e0.2.2.2.2.2.1,(e1.1.length<4000000)/\(e1.2.1.length<4000000)/\(e1.2.2.1.length<4000000)))/\(x.2.2.2.2.1.length<4000000))(u:Unit):F_250 N (x,y,u)=some (dec (x=y),()):=by
 refine Ret.tells ?_;unfold F_250;obtain ⟨x0,x1,x2,x3,x4,x5,x6,ux⟩:=x;obtain ⟨y0,y1,y2,y3,y4,y5,y6,uy⟩:=y;dsimp only;refine rk ?_ ?_ <;> intro g0
 .exact rb (q9.2 (fun h=>g0 (congrArg (fun z=>z.1) h)))
 refine rk ?_ ?_ <;> intro g1
 .exact rb (q9.2 (fun h=>g1 (congrArg (fun z=>z.2.1) h)))
 refine ra (q819 hN x2 y2 (hs.2.1) ()) (ri ?_ ?_) <;> intro g2
 .exact rb (q9.2 (fun h=>g2 (congrArg (fun z=>z.2.2.1) h)))
 refine ra (q835 hN x3 y3 (hs.2.2.1) ()) (ri ?_ ?_) <;> intro g3
 .exact rb (q9.2 (fun h=>g3 (congrArg (fun z=>z.2.2.2.1) h)))
 refine ra (q80 hN x4 y4 (hs.2.2.2) ()) (ri ?_ ?_) <;> intro g4
 .exact rb (q9.2 (fun h=>g4 (congrArg (fun z=>z.2.2.2.2.1) h)))
 refine rk ?_ ?_ <;> intro g5
 .exact rb (q9.2 (fun h=>g5 (congrArg (fun z=>z.2.2.2.2.2.1) h)))
 refine rk ?_ ?_ <;> intro g6
 .exact rb (q9.2 (fun h=>g6 (congrArg (fun z=>z.2.2.2.2.2.2.1) h)))
 subst g0 g1 g2 g3 g4 g5 g6;exact rb (q18.2 rfl)
theorem q786{N:Nat}(hN:HN N)(x y:List DCell)(hs:x.length<4000000/\∀ e0∈x,(e0.1.size<4000000)/\(e0.2.2.1.length<4000000/\∀ e1∈e0.2.2.1,(e1.1.size<4000000))/\(e0.2.2.2.1.length<4000000/\∀ e1∈e0.2.2.2.1,(e1.2.2.2.2.1.length<4000000/\∀ e2∈e1.2.2.2.2.1,(e2.1.length<4000000)/\(e2.2.1.length<4000000)/\(e2.2.2.1.length<4000000))/\(e1.2.2.2.2.2.1.length<4000000/\∀ e2∈e1.2.2.2.2.2.1,(e2.1.length<4000000)/\(e2.2.1.length<4000000)/\(e2.2.2.1.length<4000000)))/\(e0.2.2.2.2.1.length<4000000))(u:Unit):F_251 N (x,y,u)=some (dec (x=y),()):=by unfold F_251;exact q91 (fun e f=>F_250 N (e,f,())) (fun e he f _=>q846 hN e f (hs.2 e he) ()) (hs.1) hN
theorem q669{N:Nat}(hN:HN N)(x y:DLibrary)(hs:(x.1.length<4000000/\∀ e0∈x.1,(e0.1.size<4000000)/\(e0.2.2.1.length<4000000/\∀ e1∈e0.2.2.1,(e1.1.size<4000000))/\(e0.2.2.2.1.length<4000000/\∀ e1∈e0.2.2.2.1,(e1.2.2.2.2.1.length<4000000/\∀ e2∈e1.2.2.2.2.1,(e2.1.length<4000000)/\(e2.2.1.length<4000000)/\(e2.2.2.1.length<4000000))/\(e1.2.2.2.2.2.1.length<4000000/\∀ e2∈e1.2.2.2.2.2.1,(e2.1.length<4000000)/\(e2.2.1.length<4000000)/\(e2.2.2.1.length<4000000)))/\(e0.2.2.2.2.1.length<4000000)))(u:Unit):F_252 N (x,y,u)=some (dec (x=y),()):=by
 refine Ret.tells ?_;unfold F_252;obtain ⟨x0,ux⟩:=x;obtain ⟨y0,uy⟩:=y;dsimp only;refine ra (q786 hN x0 y0 (hs) ()) (ri ?_ ?_) <;> intro g0
 .exact rb (q9.2 (fun h=>g0 (congrArg (fun z=>z.1) h)))
 subst g0;exact rb (q18.2 rfl)
theorem q588{N:Nat}(hN:HN N)(x y:DInstance)(hs:(x.1.size<4000000)/\(x.2.2.1.length<4000000))(u:Unit):F_253 N (x,y,u)=some (dec (x=y),()):=by
 refine Ret.tells ?_;unfold F_253;obtain ⟨x0,x1,x2,ux⟩:=x;obtain ⟨y0,y1,y2,uy⟩:=y;dsimp only;refine rk ?_ ?_ <;> intro g0
 .exact rb (q9.2 (fun h=>g0 (congrArg (fun z=>z.1) h)))
 refine rk ?_ ?_ <;> intro g1
 .exact rb (q9.2 (fun h=>g1 (congrArg (fun z=>z.2.1) h)))
 refine ra (q80 hN x2 y2 (hs.2) ()) (ri ?_ ?_) <;> intro g2
 .exact rb (q9.2 (fun h=>g2 (congrArg (fun z=>z.2.2.1) h)))
 subst g0 g1 g2;exact rb (q18.2 rfl)
theorem q542{N:Nat}(hN:HN N)(x y:List DInstance)(hs:x.length<4000000/\∀ e0∈x,(e0.1.size<4000000)/\(e0.2.2.1.length<4000000))(u:Unit):F_254 N (x,y,u)=some (dec (x=y),()):=by unfold F_254;exact q91 (fun e f=>F_253 N (e,f,())) (fun e he f _=>q588 hN e f (hs.2 e he) ()) (hs.1) hN
theorem q668{N:Nat}(hN:HN N)(x y:List (ByteArray))(hs:x.length<4000000/\∀ e0∈x,e0.size<4000000)(u:Unit):F_255 N (x,y,u)=some (dec (x=y),()):=by unfold F_255;exact q486 (hs.1) hN
theorem q847{N:Nat}(hN:HN N)(x y:DPort)(hs:(x.1.size<4000000))(u:Unit):F_256 N (x,y,u)=some (dec (x=y),()):=by
 refine Ret.tells ?_;unfold F_256;obtain ⟨x0,x1,x2,ux⟩:=x;obtain ⟨y0,y1,y2,uy⟩:=y;dsimp only;refine rk ?_ ?_ <;> intro g0
 .exact rb (q9.2 (fun h=>g0 (congrArg (fun z=>z.1) h)))
 refine rk ?_ ?_ <;> intro g1
 .exact rb (q9.2 (fun h=>g1 (congrArg (fun z=>z.2.1) h)))
 refine rk ?_ ?_ <;> intro g2
 .exact rb (q9.2 (fun h=>g2 (congrArg (fun z=>z.2.2.1) h)))
 subst g0 g1 g2;exact rb (q18.2 rfl)
theorem q785{N:Nat}(hN:HN N)(x y:List DPort)(hs:x.length<4000000/\∀ e0∈x,(e0.1.size<4000000))(u:Unit):F_257 N (x,y,u)=some (dec (x=y),()):=by unfold F_257;exact q91 (fun e f=>F_256 N (e,f,())) (fun e he f _=>q847 hN e f (hs.2 e he) ()) (hs.1) hN
theorem q758{N:Nat}(hN:HN N)(x y:DDesign)(hs:(x.1.length<4000000/\∀ e0∈x.1,(e0.1.size<4000000)/\(e0.2.2.1.length<4000000))/\(x.2.1.length<4000000/\∀ e0∈x.2.1,e0.size<4000000)/\(x.2.2.1.length<4000000/\∀ e0∈x.2.2.1,(e0.1.size<4000000)))(u:Unit):F_258 N (x,y,u)=some (dec (x=y),()):=by
 refine Ret.tells ?_;unfold F_258;obtain ⟨x0,x1,x2,ux⟩:=x;obtain ⟨y0,y1,y2,uy⟩:=y;dsimp only;refine ra (q542 hN x0 y0 (hs.1) ()) (ri ?_ ?_) <;> intro g0
 .exact rb (q9.2 (fun h=>g0 (congrArg (fun z=>z.1) h)))
 refine ra (q668 hN x1 y1 (hs.2.1) ()) (ri ?_ ?_) <;> intro g1
 .exact rb (q9.2 (fun h=>g1 (congrArg (fun z=>z.2.1) h)))
 refine ra (q785 hN x2 y2 (hs.2.2) ()) (ri ?_ ?_) <;> intro g2
 .exact rb (q9.2 (fun h=>g2 (congrArg (fun z=>z.2.2.1) h)))
 subst g0 g1 g2;exact rb (q18.2 rfl)
theorem q849{N:Nat}(hN:HN N)(x y:DWire)(hs:(x.1.length<4000000)/\(x.2.1.length<4000000)/\(x.2.2.1.length<4000000)/\(x.2.2.2.1.length<4000000))(u:Unit):F_259 N (x,y,u)=some (dec (x=y),()):=by
 refine Ret.tells ?_;unfold F_259;obtain ⟨x0,x1,x2,x3,ux⟩:=x;obtain ⟨y0,y1,y2,y3,uy⟩:=y;dsimp only;refine ra (q80 hN x0 y0 (hs.1) ()) (ri ?_ ?_) <;> intro g0
 .exact rb (q9.2 (fun h=>g0 (congrArg (fun z=>z.1) h)))
 refine ra (q80 hN x1 y1 (hs.2.1) ()) (ri ?_ ?_) <;> intro g1
 .exact rb (q9.2 (fun h=>g1 (congrArg (fun z=>z.2.1) h)))
 refine ra (q80 hN x2 y2 (hs.2.2.1) ()) (ri ?_ ?_) <;> intro g2
 .exact rb (q9.2 (fun h=>g2 (congrArg (fun z=>z.2.2.1) h)))
 refine ra (q80 hN x3 y3 (hs.2.2.2) ()) (ri ?_ ?_) <;> intro g3
 .exact rb (q9.2 (fun h=>g3 (congrArg (fun z=>z.2.2.2.1) h)))
 subst g0 g1 g2 g3;exact rb (q18.2 rfl)
theorem q782{N:Nat}(hN:HN N)(x y:List DWire)(hs:x.length<4000000/\∀ e0∈x,(e0.1.length<4000000)/\(e0.2.1.length<4000000)/\(e0.2.2.1.length<4000000)/\(e0.2.2.2.1.length<4000000))(u:Unit):F_260 N (x,y,u)=some (dec (x=y),()):=by unfold F_260;exact q91 (fun e f=>F_259 N (e,f,())) (fun e he f _=>q849 hN e f (hs.2 e he) ()) (hs.1) hN
theorem q806{N:Nat}(hN:HN N)(x y:DBlock)(hs:((x.1.1.length<4000000/\∀ e0∈x.1.1,(e0.1.size<4000000)/\(e0.2.2.1.length<4000000/\∀ e1∈e0.2.2.1,(e1.1.size<4000000))/\(e0.2.2.2.1.length<4000000/\∀ e1∈e0.2.2.2.1,(e1.2.2.2.2.1.length<4000000/\∀ e2∈e1.2.2.2.2.1,(e2.1.length<4000000)/\(e2.2.1.length<4000000)/\(e2.2.2.1.length<4000000))/\(e1.2.2.2.2.2.1.length<4000000/\∀ e2∈e1.2.2.2.2.2.1,(e2.1.length<4000000)/\(e2.2.1.length<4000000)/\(e2.2.2.1.length<4000000)))/\(e0.2.2.2.2.1.length<4000000)))/\((x.2.1.1.length<4000000/\∀ e0∈x.2.1.1,(e0.1.size<4000000)/\(e0.2.2.1.length<4000000))/\(x.2.1.2.1.length<4000000/\∀ e0∈x.2.1.2.1,e0.size<4000000)/\(x.2.1.2.2.1.length<4000000/\∀ e0∈x.2.1.2.2.1,(e0.1.size<4000000)))/\(x.2.2.1.length<4000000/\∀ e0∈x.2.2.1,(e0.1.length<4000000)/\(e0.2.1.length<4000000)/\(e0.2.2.1.length<4000000)/\(e0.2.2.2.1.length<4000000)))(u:Unit):F_261 N (x,y,u)=some (dec (x=y),()):=by
 refine Ret.tells ?_;unfold F_261;obtain ⟨x0,x1,x2,ux⟩:=x;obtain ⟨y0,y1,y2,uy⟩:=y;dsimp only;refine ra (q669 hN x0 y0 (hs.1) ()) (ri ?_ ?_) <;> intro g0
 .exact rb (q9.2 (fun h=>g0 (congrArg (fun z=>z.1) h)))
 refine ra (q758 hN x1 y1 (hs.2.1) ()) (ri ?_ ?_) <;> intro g1
 .exact rb (q9.2 (fun h=>g1 (congrArg (fun z=>z.2.1) h)))
 refine ra (q782 hN x2 y2 (hs.2.2) ()) (ri ?_ ?_) <;> intro g2
 .exact rb (q9.2 (fun h=>g2 (congrArg (fun z=>z.2.2.1) h)))
 subst g0 g1 g2;exact rb (q18.2 rfl)
theorem q745{N:Nat}(hN:HN N)(x y:DCorner)(hs:(x.1.size<4000000))(u:Unit):F_262 N (x,y,u)=some (dec (x=y),()):=by
 refine Ret.tells ?_;unfold F_262;obtain ⟨x0,x1,x2,x3,x4,ux⟩:=x;obtain ⟨y0,y1,y2,y3,y4,uy⟩:=y;dsimp only;refine rk ?_ ?_ <;> intro g0
 .exact rb (q9.2 (fun h=>g0 (congrArg (fun z=>z.1) h)))
 refine rk ?_ ?_ <;> intro g1
 .exact rb (q9.2 (fun h=>g1 (congrArg (fun z=>z.2.1) h)))
 refine rk ?_ ?_ <;> intro g2
 .exact rb (q9.2 (fun h=>g2 (congrArg (fun z=>z.2.2.1) h)))
 refine rk ?_ ?_ <;> intro g3
 .exact rb (q9.2 (fun h=>g3 (congrArg (fun z=>z.2.2.2.1) h)))
 refine rk ?_ ?_ <;> intro g4
 .exact rb (q9.2 (fun h=>g4 (congrArg (fun z=>z.2.2.2.2.1) h)))
 subst g0 g1 g2 g3 g4;exact rb (q18.2 rfl)
theorem q751{N:Nat}(hN:HN N)(x y:DSpan)(hs:True)(u:Unit):F_263 N (x,y,u)=some (dec (x=y),()):=by
 refine Ret.tells ?_;unfold F_263;obtain ⟨x0,x1,ux⟩:=x;obtain ⟨y0,y1,uy⟩:=y;dsimp only;refine rk ?_ ?_ <;> intro g0
 .exact rb (q9.2 (fun h=>g0 (congrArg (fun z=>z.1) h)))
 refine rk ?_ ?_ <;> intro g1
 .exact rb (q9.2 (fun h=>g1 (congrArg (fun z=>z.2.1) h)))
 subst g0 g1;exact rb (q18.2 rfl)
theorem q763{N:Nat}(hN:HN N)(x y:DSource)(hs:True)(u:Unit):F_264 N (x,y,u)=some (dec (x=y),()):=by
 refine Ret.tells ?_;unfold F_264;obtain ⟨x0,x1,x2,ux⟩:=x;obtain ⟨y0,y1,y2,uy⟩:=y;dsimp only;refine rk ?_ ?_ <;> intro g0
 .exact rb (q9.2 (fun h=>g0 (congrArg (fun z=>z.1) h)))
 refine ra (q751 hN x1 y1 trivial ()) (ri ?_ ?_) <;> intro g1
 .exact rb (q9.2 (fun h=>g1 (congrArg (fun z=>z.2.1) h)))
 refine ra (q751 hN x2 y2 trivial ()) (ri ?_ ?_) <;> intro g2
 .exact rb (q9.2 (fun h=>g2 (congrArg (fun z=>z.2.2.1) h)))
 subst g0 g1 g2;exact rb (q18.2 rfl)
theorem q688{N:Nat}(hN:HN N)(x y:List DSource)(hs:x.length<4000000)(u:Unit):F_265 N (x,y,u)=some (dec (x=y),()):=by unfold F_265;exact q91 (fun e f=>F_264 N (e,f,())) (fun e he f _=>q763 hN e f trivial ()) (hs) hN
theorem eq_Job{N:Nat}(hN:HN N)(x y:DJob)(hs:(((x.1.1.1.length<4000000/\∀ e0∈x.1.1.1,(e0.1.size<4000000)/\(e0.2.2.1.length<4000000/\∀ e1∈e0.2.2.1,(e1.1.size<4000000))/\(e0.2.2.2.1.length<4000000/\∀ e1∈e0.2.2.2.1,(e1.2.2.2.2.1.length<4000000/\∀ e2∈e1.2.2.2.2.1,(e2.1.length<4000000)/\(e2.2.1.length<4000000)/\(e2.2.2.1.length<4000000))/\(e1.2.2.2.2.2.1.length<4000000/\∀ e2∈e1.2.2.2.2.2.1,(e2.1.length<4000000)/\(e2.2.1.length<4000000)/\(e2.2.2.1.length<4000000)))/\(e0.2.2.2.2.1.length<4000000)))/\((x.1.2.1.1.length<4000000/\∀ e0∈x.1.2.1.1,(e0.1.size<4000000)/\(e0.2.2.1.length<4000000))/\(x.1.2.1.2.1.length<4000000/\∀ e0∈x.1.2.1.2.1,e0.size<4000000)/\(x.1.2.1.2.2.1.length<4000000/\∀ e0∈x.1.2.1.2.2.1,(e0.1.size<4000000)))/\(x.1.2.2.1.length<4000000/\∀ e0∈x.1.2.2.1,(e0.1.length<4000000)/\(e0.2.1.length<4000000)/\(e0.2.2.1.length<4000000)/\(e0.2.2.2.1.length<4000000)))/\((x.2.1.1.size<4000000))/\(x.2.2.1.length<4000000)/\(x.2.2.2.1.length<4000000))(u:Unit):F_266 N (x,y,u)=some (dec (x=y),()):=by
 refine Ret.tells ?_;unfold F_266;obtain ⟨x0,x1,x2,x3,ux⟩:=x;obtain ⟨y0,y1,y2,y3,uy⟩:=y;dsimp only;refine ra (q806 hN x0 y0 (hs.1) ()) (ri ?_ ?_) <;> intro g0
 .exact rb (q9.2 (fun h=>g0 (congrArg (fun z=>z.1) h)))
 refine ra (q745 hN x1 y1 (hs.2.1) ()) (ri ?_ ?_) <;> intro g1
 .exact rb (q9.2 (fun h=>g1 (congrArg (fun z=>z.2.1) h)))
 refine ra (q80 hN x2 y2 (hs.2.2.1) ()) (ri ?_ ?_) <;> intro g2
 .exact rb (q9.2 (fun h=>g2 (congrArg (fun z=>z.2.2.1) h)))
 refine ra (q688 hN x3 y3 (hs.2.2.2) ()) (ri ?_ ?_) <;> intro g3
 .exact rb (q9.2 (fun h=>g3 (congrArg (fun z=>z.2.2.2.1) h)))
 subst g0 g1 g2 g3;exact rb (q18.2 rfl)
end Go.Proofs.YtegkebdjikhgmaaGreatDoor
