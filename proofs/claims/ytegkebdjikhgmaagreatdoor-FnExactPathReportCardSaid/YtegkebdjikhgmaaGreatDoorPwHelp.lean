/- The laws' own helpers: what they return. Printed by my lawgen.py. No program in sight. -/
import Derived.Test.YtegkebdjikhgmaaGreatDoorPvF1
import Derived.Test.YtegkebdjikhgmaaGreatDoorPgF
namespace Go.Proofs.YtegkebdjikhgmaaGreatDoor
set_option linter.unusedSimpArgs false
set_option linter.unusedVariables false
theorem sz_Pin {N:Nat} (hN:4000000≤N) (x:DPin) (room:Int) (h:0≤room∧room≤1048576) (hf:(TPin:Ty).fits x) (u:Unit):Ret (F_0 N (x,room,u)) (fun r=>r.1≤room∧(0≤r.1→(x.1.size<4000000))):=by
 have hm:=q28
 unfold F_0
 dsimp only
 have hf0:=hf.1
 rw [wrapI (n:=room - (x.1.size:Int)) (by omega) (by omega)]
 refine Ret.ifd ?_ ?_ <;> intro g0
 ·exact Ret.ret ⟨by show (-1:Int)≤room; omega,fun h=>absurd h (by decide)⟩
 exact Ret.ret ⟨by show (room - (x.1.size:Int))≤room; omega,fun _=>(by omega)⟩
theorem q796 {N:Nat} (hN:4000000≤N) (x:List DPin) (room:Int) (h:0≤room∧room≤1048576) (hf:((.slice TPin):Ty).fits x) (u:Unit):Ret (F_1 N (x,room,u)) (fun r=>r.1≤room∧(0≤r.1→x.length<4000000∧∀ e0∈x,(e0.1.size<4000000))):=by
 have hm:=q28
 unfold F_1
 have hl:=hf.1
 dsimp only
 rw [wrapI (n:=room - (x.length:Int)) (by omega) (by omega)]
 refine Ret.ifd ?_ ?_ <;> intro h1
 ·exact Ret.ret ⟨by show (-1:Int)≤room; omega,fun h=>absurd h (by decide)⟩
 refine Ret.upM 0 x.length (fun i r _=>0≤r∧r≤room - (x.length:Int)∧∀ j,j<i→∀ h:j<x.length,(x[j].1.size<4000000)) (by omega) (by omega) (by omega) ⟨by omega,by omega,q18⟩ ?_ ?_
 ·rintro i r t next _ hi ⟨hr0,hr,hI⟩ hn
  have hfi:=hf.2 _ (List.getElem_mem hi)
  dsimp only
  refine Ret.must ?_ ?_
  ·omega
  refine Ret.atN hi (Ret.bind (sz_Pin hN x[i] r ⟨hr0,by omega⟩ hfi ()) ?_)
  rintro ⟨r2,v⟩ ⟨h2,h3⟩
  dsimp only at h2 h3 ⊢
  refine Ret.ifd ?_ ?_ <;> intro h4
  ·exact Ret.ret ⟨by show (-1:Int)≤room; omega,fun h=>absurd h (by decide)⟩
  ·exact hn _ _ ⟨by omega,by omega,q9 hI fun _=>h3 (by omega)⟩
 ·rintro r t next ⟨hr0,hr,hI⟩
  dsimp only
  refine Ret.mustN ?_ (Ret.ret ⟨by show r≤room; omega,fun _=>⟨by omega,q10.2 fun j hj=>hI j hj hj⟩⟩)
  omega
theorem q76 {N:Nat} (hN:4000000≤N) (x:List (Int)) (room:Int) (h:0≤room∧room≤1048576) (hf:((.slice (.int .i64)):Ty).fits x) (u:Unit):Ret (F_2 N (x,room,u)) (fun r=>r.1≤room∧(0≤r.1→x.length<4000000)):=by
 have hm:=q28
 unfold F_2
 have hl:=hf.1
 dsimp only
 rw [wrapI (n:=room - (x.length:Int)) (by omega) (by omega)]
 refine Ret.ifd ?_ ?_ <;> intro h1
 ·exact Ret.ret ⟨by show (-1:Int)≤room; omega,fun h=>absurd h (by decide)⟩
 ·exact Ret.ret ⟨by show room - (x.length:Int)≤room; omega,fun _=>by omega⟩
theorem q781 {N:Nat} (hN:4000000≤N) (x:DTable) (room:Int) (h:0≤room∧room≤1048576) (hf:(TTable:Ty).fits x) (u:Unit):Ret (F_3 N (x,room,u)) (fun r=>r.1≤room∧(0≤r.1→(x.1.length<4000000)∧(x.2.1.length<4000000)∧(x.2.2.1.length<4000000))):=by
 have hm:=q28
 unfold F_3
 dsimp only
 have hf0:=hf.1
 refine Ret.bind (q76 hN x.1 room ⟨by omega,by omega⟩ hf0 ()) ?_
 rintro ⟨r0,v0⟩ ⟨a0,b0⟩
 dsimp only at a0 b0 ⊢
 refine Ret.ifd ?_ ?_ <;> intro g0
 ·exact Ret.ret ⟨by show (-1:Int)≤room; omega,fun h=>absurd h (by decide)⟩
 have hf1:=hf.2.1
 refine Ret.bind (q76 hN x.2.1 r0 ⟨by omega,by omega⟩ hf1 ()) ?_
 rintro ⟨r1,v1⟩ ⟨a1,b1⟩
 dsimp only at a1 b1 ⊢
 refine Ret.ifd ?_ ?_ <;> intro g1
 ·exact Ret.ret ⟨by show (-1:Int)≤room; omega,fun h=>absurd h (by decide)⟩
 have hf2:=hf.2.2.1
 refine Ret.bind (q76 hN x.2.2.1 r1 ⟨by omega,by omega⟩ hf2 ()) ?_
 rintro ⟨r2,v2⟩ ⟨a2,b2⟩
 dsimp only at a2 b2 ⊢
 refine Ret.ifd ?_ ?_ <;> intro g2
 ·exact Ret.ret ⟨by show (-1:Int)≤room; omega,fun h=>absurd h (by decide)⟩
 exact Ret.ret ⟨by show r2≤room; omega,fun _=>⟨b0 (by omega),b1 (by omega),b2 (by omega)⟩⟩
theorem q490 {N:Nat} (hN:4000000≤N) (x:List DTable) (room:Int) (h:0≤room∧room≤1048576) (hf:((.slice TTable):Ty).fits x) (u:Unit):Ret (F_4 N (x,room,u)) (fun r=>r.1≤room∧(0≤r.1→x.length<4000000∧∀ e0∈x,(e0.1.length<4000000)∧(e0.2.1.length<4000000)∧(e0.2.2.1.length<4000000))):=by
 have hm:=q28
 unfold F_4
 have hl:=hf.1
 dsimp only
 rw [wrapI (n:=room - (x.length:Int)) (by omega) (by omega)]
 refine Ret.ifd ?_ ?_ <;> intro h1
 ·exact Ret.ret ⟨by show (-1:Int)≤room; omega,fun h=>absurd h (by decide)⟩
 refine Ret.upM 0 x.length (fun i r _=>0≤r∧r≤room - (x.length:Int)∧∀ j,j<i→∀ h:j<x.length,(x[j].1.length<4000000)∧(x[j].2.1.length<4000000)∧(x[j].2.2.1.length<4000000)) (by omega) (by omega) (by omega) ⟨by omega,by omega,q18⟩ ?_ ?_
 ·rintro i r t next _ hi ⟨hr0,hr,hI⟩ hn
  have hfi:=hf.2 _ (List.getElem_mem hi)
  dsimp only
  refine Ret.must ?_ ?_
  ·omega
  refine Ret.atN hi (Ret.bind (q781 hN x[i] r ⟨hr0,by omega⟩ hfi ()) ?_)
  rintro ⟨r2,v⟩ ⟨h2,h3⟩
  dsimp only at h2 h3 ⊢
  refine Ret.ifd ?_ ?_ <;> intro h4
  ·exact Ret.ret ⟨by show (-1:Int)≤room; omega,fun h=>absurd h (by decide)⟩
  ·exact hn _ _ ⟨by omega,by omega,q9 hI fun _=>h3 (by omega)⟩
 ·rintro r t next ⟨hr0,hr,hI⟩
  dsimp only
  refine Ret.mustN ?_ (Ret.ret ⟨by show r≤room; omega,fun _=>⟨by omega,q10.2 fun j hj=>hI j hj hj⟩⟩)
  omega
theorem sz_Arc {N:Nat} (hN:4000000≤N) (x:DArc) (room:Int) (h:0≤room∧room≤1048576) (hf:(TArc:Ty).fits x) (u:Unit):Ret (F_5 N (x,room,u)) (fun r=>r.1≤room∧(0≤r.1→(x.2.2.2.2.1.length<4000000∧∀ e0∈x.2.2.2.2.1,(e0.1.length<4000000)∧(e0.2.1.length<4000000)∧(e0.2.2.1.length<4000000))∧(x.2.2.2.2.2.1.length<4000000∧∀ e0∈x.2.2.2.2.2.1,(e0.1.length<4000000)∧(e0.2.1.length<4000000)∧(e0.2.2.1.length<4000000)))):=by
 have hm:=q28
 unfold F_5
 dsimp only
 have hf0:=hf.2.2.2.2.1
 refine Ret.bind (q490 hN x.2.2.2.2.1 room ⟨by omega,by omega⟩ hf0 ()) ?_
 rintro ⟨r0,v0⟩ ⟨a0,b0⟩
 dsimp only at a0 b0 ⊢
 refine Ret.ifd ?_ ?_ <;> intro g0
 ·exact Ret.ret ⟨by show (-1:Int)≤room; omega,fun h=>absurd h (by decide)⟩
 have hf1:=hf.2.2.2.2.2.1
 refine Ret.bind (q490 hN x.2.2.2.2.2.1 r0 ⟨by omega,by omega⟩ hf1 ()) ?_
 rintro ⟨r1,v1⟩ ⟨a1,b1⟩
 dsimp only at a1 b1 ⊢
 refine Ret.ifd ?_ ?_ <;> intro g1
 ·exact Ret.ret ⟨by show (-1:Int)≤room; omega,fun h=>absurd h (by decide)⟩
 exact Ret.ret ⟨by show r1≤room; omega,fun _=>⟨b0 (by omega),b1 (by omega)⟩⟩
theorem q812 {N:Nat} (hN:4000000≤N) (x:List DArc) (room:Int) (h:0≤room∧room≤1048576) (hf:((.slice TArc):Ty).fits x) (u:Unit):Ret (F_6 N (x,room,u)) (fun r=>r.1≤room∧(0≤r.1→x.length<4000000∧∀ e0∈x,(e0.2.2.2.2.1.length<4000000∧∀ e1∈e0.2.2.2.2.1,(e1.1.length<4000000)∧(e1.2.1.length<4000000)∧(e1.2.2.1.length<4000000))∧(e0.2.2.2.2.2.1.length<4000000∧∀ e1∈e0.2.2.2.2.2.1,(e1.1.length<4000000)∧(e1.2.1.length<4000000)∧(e1.2.2.1.length<4000000)))):=by
 have hm:=q28
 unfold F_6
 have hl:=hf.1
 dsimp only
 rw [wrapI (n:=room - (x.length:Int)) (by omega) (by omega)]
 refine Ret.ifd ?_ ?_ <;> intro h1
 ·exact Ret.ret ⟨by show (-1:Int)≤room; omega,fun h=>absurd h (by decide)⟩
 refine Ret.upM 0 x.length (fun i r _=>0≤r∧r≤room - (x.length:Int)∧∀ j,j<i→∀ h:j<x.length,(x[j].2.2.2.2.1.length<4000000∧∀ e0∈x[j].2.2.2.2.1,(e0.1.length<4000000)∧(e0.2.1.length<4000000)∧(e0.2.2.1.length<4000000))∧(x[j].2.2.2.2.2.1.length<4000000∧∀ e0∈x[j].2.2.2.2.2.1,(e0.1.length<4000000)∧(e0.2.1.length<4000000)∧(e0.2.2.1.length<4000000))) (by omega) (by omega) (by omega) ⟨by omega,by omega,q18⟩ ?_ ?_
 ·rintro i r t next _ hi ⟨hr0,hr,hI⟩ hn
  have hfi:=hf.2 _ (List.getElem_mem hi)
  dsimp only
  refine Ret.must ?_ ?_
  ·omega
  refine Ret.atN hi (Ret.bind (sz_Arc hN x[i] r ⟨hr0,by omega⟩ hfi ()) ?_)
  rintro ⟨r2,v⟩ ⟨h2,h3⟩
  dsimp only at h2 h3 ⊢
  refine Ret.ifd ?_ ?_ <;> intro h4
  ·exact Ret.ret ⟨by show (-1:Int)≤room; omega,fun h=>absurd h (by decide)⟩
  ·exact hn _ _ ⟨by omega,by omega,q9 hI fun _=>h3 (by omega)⟩
 ·rintro r t next ⟨hr0,hr,hI⟩
  dsimp only
  refine Ret.mustN ?_ (Ret.ret ⟨by show r≤room; omega,fun _=>⟨by omega,q10.2 fun j hj=>hI j hj hj⟩⟩)
  omega
theorem q809 {N:Nat} (hN:4000000≤N) (x:DCell) (room:Int) (h:0≤room∧room≤1048576) (hf:(TCell:Ty).fits x) (u:Unit):Ret (F_7 N (x,room,u)) (fun r=>r.1≤room∧(0≤r.1→(x.1.size<4000000)∧(x.2.2.1.length<4000000∧∀ e0∈x.2.2.1,(e0.1.size<4000000))∧(x.2.2.2.1.length<4000000∧∀ e0∈x.2.2.2.1,(e0.2.2.2.2.1.length<4000000∧∀ e1∈e0.2.2.2.2.1,(e1.1.length<4000000)∧(e1.2.1.length<4000000)∧(e1.2.2.1.length<4000000))∧(e0.2.2.2.2.2.1.length<4000000∧∀ e1∈e0.2.2.2.2.2.1,(e1.1.length<4000000)∧(e1.2.1.length<4000000)∧(e1.2.2.1.length<4000000)))∧(x.2.2.2.2.1.length<4000000))):=by
 have hm:=q28
 unfold F_7
 dsimp only
 have hf0:=hf.1
 rw [wrapI (n:=room - (x.1.size:Int)) (by omega) (by omega)]
 refine Ret.ifd ?_ ?_ <;> intro g0
 ·exact Ret.ret ⟨by show (-1:Int)≤room; omega,fun h=>absurd h (by decide)⟩
 have hf1:=hf.2.2.1
 refine Ret.bind (q796 hN x.2.2.1 (room - (x.1.size:Int)) ⟨by omega,by omega⟩ hf1 ()) ?_
 rintro ⟨r1,v1⟩ ⟨a1,b1⟩
 dsimp only at a1 b1 ⊢
 refine Ret.ifd ?_ ?_ <;> intro g1
 ·exact Ret.ret ⟨by show (-1:Int)≤room; omega,fun h=>absurd h (by decide)⟩
 have hf2:=hf.2.2.2.1
 refine Ret.bind (q812 hN x.2.2.2.1 r1 ⟨by omega,by omega⟩ hf2 ()) ?_
 rintro ⟨r2,v2⟩ ⟨a2,b2⟩
 dsimp only at a2 b2 ⊢
 refine Ret.ifd ?_ ?_ <;> intro g2
 ·exact Ret.ret ⟨by show (-1:Int)≤room; omega,fun h=>absurd h (by decide)⟩
 have hf3:=hf.2.2.2.2.1
 refine Ret.bind (q76 hN x.2.2.2.2.1 r2 ⟨by omega,by omega⟩ hf3 ()) ?_
 rintro ⟨r3,v3⟩ ⟨a3,b3⟩
 dsimp only at a3 b3 ⊢
 refine Ret.ifd ?_ ?_ <;> intro g3
 ·exact Ret.ret ⟨by show (-1:Int)≤room; omega,fun h=>absurd h (by decide)⟩
 exact Ret.ret ⟨by show r3≤room; omega,fun _=>⟨(by omega),b1 (by omega),b2 (by omega),b3 (by omega)⟩⟩
theorem q747 {N:Nat} (hN:4000000≤N) (x:List DCell) (room:Int) (h:0≤room∧room≤1048576) (hf:((.slice TCell):Ty).fits x) (u:Unit):Ret (F_8 N (x,room,u)) (fun r=>r.1≤room∧(0≤r.1→x.length<4000000∧∀ e0∈x,(e0.1.size<4000000)∧(e0.2.2.1.length<4000000∧∀ e1∈e0.2.2.1,(e1.1.size<4000000))∧(e0.2.2.2.1.length<4000000∧∀ e1∈e0.2.2.2.1,(e1.2.2.2.2.1.length<4000000∧∀ e2∈e1.2.2.2.2.1,(e2.1.length<4000000)∧(e2.2.1.length<4000000)∧(e2.2.2.1.length<4000000))∧(e1.2.2.2.2.2.1.length<4000000∧∀ e2∈e1.2.2.2.2.2.1,(e2.1.length<4000000)∧(e2.2.1.length<4000000)∧(e2.2.2.1.length<4000000)))∧(e0.2.2.2.2.1.length<4000000))):=by
 have hm:=q28
 unfold F_8
 have hl:=hf.1
 dsimp only
 rw [wrapI (n:=room - (x.length:Int)) (by omega) (by omega)]
 refine Ret.ifd ?_ ?_ <;> intro h1
 ·exact Ret.ret ⟨by show (-1:Int)≤room; omega,fun h=>absurd h (by decide)⟩
 refine Ret.upM 0 x.length (fun i r _=>0≤r∧r≤room - (x.length:Int)∧∀ j,j<i→∀ h:j<x.length,(x[j].1.size<4000000)∧(x[j].2.2.1.length<4000000∧∀ e0∈x[j].2.2.1,(e0.1.size<4000000))∧(x[j].2.2.2.1.length<4000000∧∀ e0∈x[j].2.2.2.1,(e0.2.2.2.2.1.length<4000000∧∀ e1∈e0.2.2.2.2.1,(e1.1.length<4000000)∧(e1.2.1.length<4000000)∧(e1.2.2.1.length<4000000))∧(e0.2.2.2.2.2.1.length<4000000∧∀ e1∈e0.2.2.2.2.2.1,(e1.1.length<4000000)∧(e1.2.1.length<4000000)∧(e1.2.2.1.length<4000000)))∧(x[j].2.2.2.2.1.length<4000000)) (by omega) (by omega) (by omega) ⟨by omega,by omega,q18⟩ ?_ ?_
 ·rintro i r t next _ hi ⟨hr0,hr,hI⟩ hn
  have hfi:=hf.2 _ (List.getElem_mem hi)
  dsimp only
  refine Ret.must ?_ ?_
  ·omega
  refine Ret.atN hi (Ret.bind (q809 hN x[i] r ⟨hr0,by omega⟩ hfi ()) ?_)
  rintro ⟨r2,v⟩ ⟨h2,h3⟩
  dsimp only at h2 h3 ⊢
  refine Ret.ifd ?_ ?_ <;> intro h4
  ·exact Ret.ret ⟨by show (-1:Int)≤room; omega,fun h=>absurd h (by decide)⟩
  ·exact hn _ _ ⟨by omega,by omega,q9 hI fun _=>h3 (by omega)⟩
 ·rintro r t next ⟨hr0,hr,hI⟩
  dsimp only
  refine Ret.mustN ?_ (Ret.ret ⟨by show r≤room; omega,fun _=>⟨by omega,q10.2 fun j hj=>hI j hj hj⟩⟩)
  omega
theorem q644 {N:Nat} (hN:4000000≤N) (x:DLibrary) (room:Int) (h:0≤room∧room≤1048576) (hf:(TLibrary:Ty).fits x) (u:Unit):Ret (F_9 N (x,room,u)) (fun r=>r.1≤room∧(0≤r.1→(x.1.length<4000000∧∀ e0∈x.1,(e0.1.size<4000000)∧(e0.2.2.1.length<4000000∧∀ e1∈e0.2.2.1,(e1.1.size<4000000))∧(e0.2.2.2.1.length<4000000∧∀ e1∈e0.2.2.2.1,(e1.2.2.2.2.1.length<4000000∧∀ e2∈e1.2.2.2.2.1,(e2.1.length<4000000)∧(e2.2.1.length<4000000)∧(e2.2.2.1.length<4000000))∧(e1.2.2.2.2.2.1.length<4000000∧∀ e2∈e1.2.2.2.2.2.1,(e2.1.length<4000000)∧(e2.2.1.length<4000000)∧(e2.2.2.1.length<4000000)))∧(e0.2.2.2.2.1.length<4000000)))):=by
 have hm:=q28
 unfold F_9
 dsimp only
 have hf0:=hf.1
 refine Ret.bind (q747 hN x.1 room ⟨by omega,by omega⟩ hf0 ()) ?_
 rintro ⟨r0,v0⟩ ⟨a0,b0⟩
 dsimp only at a0 b0 ⊢
 refine Ret.ifd ?_ ?_ <;> intro g0
 ·exact Ret.ret ⟨by show (-1:Int)≤room; omega,fun h=>absurd h (by decide)⟩
 exact Ret.ret ⟨by show r0≤room; omega,fun _=>b0 (by omega)⟩
theorem q559 {N:Nat} (hN:4000000≤N) (x:DInstance) (room:Int) (h:0≤room∧room≤1048576) (hf:(TInstance:Ty).fits x) (u:Unit):Ret (F_10 N (x,room,u)) (fun r=>r.1≤room∧(0≤r.1→(x.1.size<4000000)∧(x.2.2.1.length<4000000))):=by
 have hm:=q28
 unfold F_10
 dsimp only
 have hf0:=hf.1
 rw [wrapI (n:=room - (x.1.size:Int)) (by omega) (by omega)]
 refine Ret.ifd ?_ ?_ <;> intro g0
 ·exact Ret.ret ⟨by show (-1:Int)≤room; omega,fun h=>absurd h (by decide)⟩
 have hf1:=hf.2.2.1
 refine Ret.bind (q76 hN x.2.2.1 (room - (x.1.size:Int)) ⟨by omega,by omega⟩ hf1 ()) ?_
 rintro ⟨r1,v1⟩ ⟨a1,b1⟩
 dsimp only at a1 b1 ⊢
 refine Ret.ifd ?_ ?_ <;> intro g1
 ·exact Ret.ret ⟨by show (-1:Int)≤room; omega,fun h=>absurd h (by decide)⟩
 exact Ret.ret ⟨by show r1≤room; omega,fun _=>⟨(by omega),b1 (by omega)⟩⟩
theorem q532 {N:Nat} (hN:4000000≤N) (x:List DInstance) (room:Int) (h:0≤room∧room≤1048576) (hf:((.slice TInstance):Ty).fits x) (u:Unit):Ret (F_11 N (x,room,u)) (fun r=>r.1≤room∧(0≤r.1→x.length<4000000∧∀ e0∈x,(e0.1.size<4000000)∧(e0.2.2.1.length<4000000))):=by
 have hm:=q28
 unfold F_11
 have hl:=hf.1
 dsimp only
 rw [wrapI (n:=room - (x.length:Int)) (by omega) (by omega)]
 refine Ret.ifd ?_ ?_ <;> intro h1
 ·exact Ret.ret ⟨by show (-1:Int)≤room; omega,fun h=>absurd h (by decide)⟩
 refine Ret.upM 0 x.length (fun i r _=>0≤r∧r≤room - (x.length:Int)∧∀ j,j<i→∀ h:j<x.length,(x[j].1.size<4000000)∧(x[j].2.2.1.length<4000000)) (by omega) (by omega) (by omega) ⟨by omega,by omega,q18⟩ ?_ ?_
 ·rintro i r t next _ hi ⟨hr0,hr,hI⟩ hn
  have hfi:=hf.2 _ (List.getElem_mem hi)
  dsimp only
  refine Ret.must ?_ ?_
  ·omega
  refine Ret.atN hi (Ret.bind (q559 hN x[i] r ⟨hr0,by omega⟩ hfi ()) ?_)
  rintro ⟨r2,v⟩ ⟨h2,h3⟩
  dsimp only at h2 h3 ⊢
  refine Ret.ifd ?_ ?_ <;> intro h4
  ·exact Ret.ret ⟨by show (-1:Int)≤room; omega,fun h=>absurd h (by decide)⟩
  ·exact hn _ _ ⟨by omega,by omega,q9 hI fun _=>h3 (by omega)⟩
 ·rintro r t next ⟨hr0,hr,hI⟩
  dsimp only
  refine Ret.mustN ?_ (Ret.ret ⟨by show r≤room; omega,fun _=>⟨by omega,q10.2 fun j hj=>hI j hj hj⟩⟩)
  omega
theorem q645 {N:Nat} (hN:4000000≤N) (x:List (ByteArray)) (room:Int) (h:0≤room∧room≤1048576) (hf:((.slice (.str)):Ty).fits x) (u:Unit):Ret (F_12 N (x,room,u)) (fun r=>r.1≤room∧(0≤r.1→x.length<4000000∧∀ e0∈x,e0.size<4000000)):=by
 have hm:=q28
 unfold F_12
 have hl:=hf.1
 dsimp only
 rw [wrapI (n:=room - (x.length:Int)) (by omega) (by omega)]
 refine Ret.ifd ?_ ?_ <;> intro h1
 ·exact Ret.ret ⟨by show (-1:Int)≤room; omega,fun h=>absurd h (by decide)⟩
 refine Ret.upM 0 x.length (fun i r _=>0≤r∧r≤room - (x.length:Int)∧∀ j,j<i→∀ h:j<x.length,x[j].size<4000000) (by omega) (by omega) (by omega) ⟨by omega,by omega,q18⟩ ?_ ?_
 ·rintro i r t next _ hi ⟨hr0,hr,hI⟩ hn
  have hfi:=hf.2 _ (List.getElem_mem hi)
  dsimp only
  refine Ret.must ?_ ?_
  ·omega
  refine Ret.atN hi ?_
  have hfi:x[i].size≤maxLen:=hfi
  rw [wrapI (n:=r - (x[i].size:Int)) (by omega) (by omega)]
  refine Ret.ifd ?_ ?_ <;> intro h2
  ·exact Ret.ret ⟨by show (-1:Int)≤room; omega,fun h=>absurd h (by decide)⟩
  ·exact hn _ _ ⟨by omega,by omega,q9 hI fun _=>by omega⟩
 ·rintro r t next ⟨hr0,hr,hI⟩
  dsimp only
  refine Ret.mustN ?_ (Ret.ret ⟨by show r≤room; omega,fun _=>⟨by omega,q10.2 fun j hj=>hI j hj hj⟩⟩)
  omega
theorem q791 {N:Nat} (hN:4000000≤N) (x:DPort) (room:Int) (h:0≤room∧room≤1048576) (hf:(TPort:Ty).fits x) (u:Unit):Ret (F_13 N (x,room,u)) (fun r=>r.1≤room∧(0≤r.1→(x.1.size<4000000))):=by
 have hm:=q28
 unfold F_13
 dsimp only
 have hf0:=hf.1
 rw [wrapI (n:=room - (x.1.size:Int)) (by omega) (by omega)]
 refine Ret.ifd ?_ ?_ <;> intro g0
 ·exact Ret.ret ⟨by show (-1:Int)≤room; omega,fun h=>absurd h (by decide)⟩
 exact Ret.ret ⟨by show (room - (x.1.size:Int))≤room; omega,fun _=>(by omega)⟩
theorem q741 {N:Nat} (hN:4000000≤N) (x:List DPort) (room:Int) (h:0≤room∧room≤1048576) (hf:((.slice TPort):Ty).fits x) (u:Unit):Ret (F_14 N (x,room,u)) (fun r=>r.1≤room∧(0≤r.1→x.length<4000000∧∀ e0∈x,(e0.1.size<4000000))):=by
 have hm:=q28
 unfold F_14
 have hl:=hf.1
 dsimp only
 rw [wrapI (n:=room - (x.length:Int)) (by omega) (by omega)]
 refine Ret.ifd ?_ ?_ <;> intro h1
 ·exact Ret.ret ⟨by show (-1:Int)≤room; omega,fun h=>absurd h (by decide)⟩
 refine Ret.upM 0 x.length (fun i r _=>0≤r∧r≤room - (x.length:Int)∧∀ j,j<i→∀ h:j<x.length,(x[j].1.size<4000000)) (by omega) (by omega) (by omega) ⟨by omega,by omega,q18⟩ ?_ ?_
 ·rintro i r t next _ hi ⟨hr0,hr,hI⟩ hn
  have hfi:=hf.2 _ (List.getElem_mem hi)
  dsimp only
  refine Ret.must ?_ ?_
  ·omega
  refine Ret.atN hi (Ret.bind (q791 hN x[i] r ⟨hr0,by omega⟩ hfi ()) ?_)
  rintro ⟨r2,v⟩ ⟨h2,h3⟩
  dsimp only at h2 h3 ⊢
  refine Ret.ifd ?_ ?_ <;> intro h4
  ·exact Ret.ret ⟨by show (-1:Int)≤room; omega,fun h=>absurd h (by decide)⟩
  ·exact hn _ _ ⟨by omega,by omega,q9 hI fun _=>h3 (by omega)⟩
 ·rintro r t next ⟨hr0,hr,hI⟩
  dsimp only
  refine Ret.mustN ?_ (Ret.ret ⟨by show r≤room; omega,fun _=>⟨by omega,q10.2 fun j hj=>hI j hj hj⟩⟩)
  omega
theorem q664 {N:Nat} (hN:4000000≤N) (x:DDesign) (room:Int) (h:0≤room∧room≤1048576) (hf:(TDesign:Ty).fits x) (u:Unit):Ret (F_15 N (x,room,u)) (fun r=>r.1≤room∧(0≤r.1→(x.1.length<4000000∧∀ e0∈x.1,(e0.1.size<4000000)∧(e0.2.2.1.length<4000000))∧(x.2.1.length<4000000∧∀ e0∈x.2.1,e0.size<4000000)∧(x.2.2.1.length<4000000∧∀ e0∈x.2.2.1,(e0.1.size<4000000)))):=by
 have hm:=q28
 unfold F_15
 dsimp only
 have hf0:=hf.1
 refine Ret.bind (q532 hN x.1 room ⟨by omega,by omega⟩ hf0 ()) ?_
 rintro ⟨r0,v0⟩ ⟨a0,b0⟩
 dsimp only at a0 b0 ⊢
 refine Ret.ifd ?_ ?_ <;> intro g0
 ·exact Ret.ret ⟨by show (-1:Int)≤room; omega,fun h=>absurd h (by decide)⟩
 have hf1:=hf.2.1
 refine Ret.bind (q645 hN x.2.1 r0 ⟨by omega,by omega⟩ hf1 ()) ?_
 rintro ⟨r1,v1⟩ ⟨a1,b1⟩
 dsimp only at a1 b1 ⊢
 refine Ret.ifd ?_ ?_ <;> intro g1
 ·exact Ret.ret ⟨by show (-1:Int)≤room; omega,fun h=>absurd h (by decide)⟩
 have hf2:=hf.2.2.1
 refine Ret.bind (q741 hN x.2.2.1 r1 ⟨by omega,by omega⟩ hf2 ()) ?_
 rintro ⟨r2,v2⟩ ⟨a2,b2⟩
 dsimp only at a2 b2 ⊢
 refine Ret.ifd ?_ ?_ <;> intro g2
 ·exact Ret.ret ⟨by show (-1:Int)≤room; omega,fun h=>absurd h (by decide)⟩
 exact Ret.ret ⟨by show r2≤room; omega,fun _=>⟨b0 (by omega),b1 (by omega),b2 (by omega)⟩⟩
theorem q784 {N:Nat} (hN:4000000≤N) (x:DWire) (room:Int) (h:0≤room∧room≤1048576) (hf:(TWire:Ty).fits x) (u:Unit):Ret (F_16 N (x,room,u)) (fun r=>r.1≤room∧(0≤r.1→(x.1.length<4000000)∧(x.2.1.length<4000000)∧(x.2.2.1.length<4000000)∧(x.2.2.2.1.length<4000000))):=by
 have hm:=q28
 unfold F_16
 dsimp only
 have hf0:=hf.1
 refine Ret.bind (q76 hN x.1 room ⟨by omega,by omega⟩ hf0 ()) ?_
 rintro ⟨r0,v0⟩ ⟨a0,b0⟩
 dsimp only at a0 b0 ⊢
 refine Ret.ifd ?_ ?_ <;> intro g0
 ·exact Ret.ret ⟨by show (-1:Int)≤room; omega,fun h=>absurd h (by decide)⟩
 have hf1:=hf.2.1
 refine Ret.bind (q76 hN x.2.1 r0 ⟨by omega,by omega⟩ hf1 ()) ?_
 rintro ⟨r1,v1⟩ ⟨a1,b1⟩
 dsimp only at a1 b1 ⊢
 refine Ret.ifd ?_ ?_ <;> intro g1
 ·exact Ret.ret ⟨by show (-1:Int)≤room; omega,fun h=>absurd h (by decide)⟩
 have hf2:=hf.2.2.1
 refine Ret.bind (q76 hN x.2.2.1 r1 ⟨by omega,by omega⟩ hf2 ()) ?_
 rintro ⟨r2,v2⟩ ⟨a2,b2⟩
 dsimp only at a2 b2 ⊢
 refine Ret.ifd ?_ ?_ <;> intro g2
 ·exact Ret.ret ⟨by show (-1:Int)≤room; omega,fun h=>absurd h (by decide)⟩
 have hf3:=hf.2.2.2.1
 refine Ret.bind (q76 hN x.2.2.2.1 r2 ⟨by omega,by omega⟩ hf3 ()) ?_
 rintro ⟨r3,v3⟩ ⟨a3,b3⟩
 dsimp only at a3 b3 ⊢
 refine Ret.ifd ?_ ?_ <;> intro g3
 ·exact Ret.ret ⟨by show (-1:Int)≤room; omega,fun h=>absurd h (by decide)⟩
 exact Ret.ret ⟨by show r3≤room; omega,fun _=>⟨b0 (by omega),b1 (by omega),b2 (by omega),b3 (by omega)⟩⟩
theorem q764 {N:Nat} (hN:4000000≤N) (x:List DWire) (room:Int) (h:0≤room∧room≤1048576) (hf:((.slice TWire):Ty).fits x) (u:Unit):Ret (F_17 N (x,room,u)) (fun r=>r.1≤room∧(0≤r.1→x.length<4000000∧∀ e0∈x,(e0.1.length<4000000)∧(e0.2.1.length<4000000)∧(e0.2.2.1.length<4000000)∧(e0.2.2.2.1.length<4000000))):=by
 have hm:=q28
 unfold F_17
 have hl:=hf.1
 dsimp only
 rw [wrapI (n:=room - (x.length:Int)) (by omega) (by omega)]
 refine Ret.ifd ?_ ?_ <;> intro h1
 ·exact Ret.ret ⟨by show (-1:Int)≤room; omega,fun h=>absurd h (by decide)⟩
 refine Ret.upM 0 x.length (fun i r _=>0≤r∧r≤room - (x.length:Int)∧∀ j,j<i→∀ h:j<x.length,(x[j].1.length<4000000)∧(x[j].2.1.length<4000000)∧(x[j].2.2.1.length<4000000)∧(x[j].2.2.2.1.length<4000000)) (by omega) (by omega) (by omega) ⟨by omega,by omega,q18⟩ ?_ ?_
 ·rintro i r t next _ hi ⟨hr0,hr,hI⟩ hn
  have hfi:=hf.2 _ (List.getElem_mem hi)
  dsimp only
  refine Ret.must ?_ ?_
  ·omega
  refine Ret.atN hi (Ret.bind (q784 hN x[i] r ⟨hr0,by omega⟩ hfi ()) ?_)
  rintro ⟨r2,v⟩ ⟨h2,h3⟩
  dsimp only at h2 h3 ⊢
  refine Ret.ifd ?_ ?_ <;> intro h4
  ·exact Ret.ret ⟨by show (-1:Int)≤room; omega,fun h=>absurd h (by decide)⟩
  ·exact hn _ _ ⟨by omega,by omega,q9 hI fun _=>h3 (by omega)⟩
 ·rintro r t next ⟨hr0,hr,hI⟩
  dsimp only
  refine Ret.mustN ?_ (Ret.ret ⟨by show r≤room; omega,fun _=>⟨by omega,q10.2 fun j hj=>hI j hj hj⟩⟩)
  omega
theorem q748 {N:Nat} (hN:4000000≤N) (x:DBlock) (room:Int) (h:0≤room∧room≤1048576) (hf:(TBlock:Ty).fits x) (u:Unit):Ret (F_18 N (x,room,u)) (fun r=>r.1≤room∧(0≤r.1→((x.1.1.length<4000000∧∀ e0∈x.1.1,(e0.1.size<4000000)∧(e0.2.2.1.length<4000000∧∀ e1∈e0.2.2.1,(e1.1.size<4000000))∧(e0.2.2.2.1.length<4000000∧∀ e1∈e0.2.2.2.1,(e1.2.2.2.2.1.length<4000000∧∀ e2∈e1.2.2.2.2.1,(e2.1.length<4000000)∧(e2.2.1.length<4000000)∧(e2.2.2.1.length<4000000))∧(e1.2.2.2.2.2.1.length<4000000∧∀ e2∈e1.2.2.2.2.2.1,(e2.1.length<4000000)∧(e2.2.1.length<4000000)∧(e2.2.2.1.length<4000000)))∧(e0.2.2.2.2.1.length<4000000)))∧((x.2.1.1.length<4000000∧∀ e0∈x.2.1.1,(e0.1.size<4000000)∧(e0.2.2.1.length<4000000))∧(x.2.1.2.1.length<4000000∧∀ e0∈x.2.1.2.1,e0.size<4000000)∧(x.2.1.2.2.1.length<4000000∧∀ e0∈x.2.1.2.2.1,(e0.1.size<4000000)))∧(x.2.2.1.length<4000000∧∀ e0∈x.2.2.1,(e0.1.length<4000000)∧(e0.2.1.length<4000000)∧(e0.2.2.1.length<4000000)∧(e0.2.2.2.1.length<4000000)))):=by
 have hm:=q28
 unfold F_18
 dsimp only
 have hf0:=hf.1
 refine Ret.bind (q644 hN x.1 room ⟨by omega,by omega⟩ hf0 ()) ?_
 rintro ⟨r0,v0⟩ ⟨a0,b0⟩
 dsimp only at a0 b0 ⊢
 refine Ret.ifd ?_ ?_ <;> intro g0
 ·exact Ret.ret ⟨by show (-1:Int)≤room; omega,fun h=>absurd h (by decide)⟩
 have hf1:=hf.2.1
 refine Ret.bind (q664 hN x.2.1 r0 ⟨by omega,by omega⟩ hf1 ()) ?_
 rintro ⟨r1,v1⟩ ⟨a1,b1⟩
 dsimp only at a1 b1 ⊢
 refine Ret.ifd ?_ ?_ <;> intro g1
 ·exact Ret.ret ⟨by show (-1:Int)≤room; omega,fun h=>absurd h (by decide)⟩
 have hf2:=hf.2.2.1
 refine Ret.bind (q764 hN x.2.2.1 r1 ⟨by omega,by omega⟩ hf2 ()) ?_
 rintro ⟨r2,v2⟩ ⟨a2,b2⟩
 dsimp only at a2 b2 ⊢
 refine Ret.ifd ?_ ?_ <;> intro g2
 ·exact Ret.ret ⟨by show (-1:Int)≤room; omega,fun h=>absurd h (by decide)⟩
 exact Ret.ret ⟨by show r2≤room; omega,fun _=>⟨b0 (by omega),b1 (by omega),b2 (by omega)⟩⟩
theorem q681 {N:Nat} (hN:4000000≤N) (x:DCorner) (room:Int) (h:0≤room∧room≤1048576) (hf:(TCorner:Ty).fits x) (u:Unit):Ret (F_19 N (x,room,u)) (fun r=>r.1≤room∧(0≤r.1→(x.1.size<4000000))):=by
 have hm:=q28
 unfold F_19
 dsimp only
 have hf0:=hf.1
 rw [wrapI (n:=room - (x.1.size:Int)) (by omega) (by omega)]
 refine Ret.ifd ?_ ?_ <;> intro g0
 ·exact Ret.ret ⟨by show (-1:Int)≤room; omega,fun h=>absurd h (by decide)⟩
 exact Ret.ret ⟨by show (room - (x.1.size:Int))≤room; omega,fun _=>(by omega)⟩
theorem q630 {N:Nat} (hN:4000000≤N) (x:List DSource) (room:Int) (h:0≤room∧room≤1048576) (hf:((.slice TSource):Ty).fits x) (u:Unit):Ret (F_20 N (x,room,u)) (fun r=>r.1≤room∧(0≤r.1→x.length<4000000)):=by
 have hm:=q28
 unfold F_20
 have hl:=hf.1
 dsimp only
 rw [wrapI (n:=room - (x.length:Int)) (by omega) (by omega)]
 refine Ret.ifd ?_ ?_ <;> intro h1
 ·exact Ret.ret ⟨by show (-1:Int)≤room; omega,fun h=>absurd h (by decide)⟩
 ·exact Ret.ret ⟨by show room - (x.length:Int)≤room; omega,fun _=>by omega⟩
theorem sz_Job {N:Nat} (hN:4000000≤N) (x:DJob) (room:Int) (h:0≤room∧room≤1048576) (hf:(TJob:Ty).fits x) (u:Unit):Ret (F_21 N (x,room,u)) (fun r=>r.1≤room∧(0≤r.1→(((x.1.1.1.length<4000000∧∀ e0∈x.1.1.1,(e0.1.size<4000000)∧(e0.2.2.1.length<4000000∧∀ e1∈e0.2.2.1,(e1.1.size<4000000))∧(e0.2.2.2.1.length<4000000∧∀ e1∈e0.2.2.2.1,(e1.2.2.2.2.1.length<4000000∧∀ e2∈e1.2.2.2.2.1,(e2.1.length<4000000)∧(e2.2.1.length<4000000)∧(e2.2.2.1.length<4000000))∧(e1.2.2.2.2.2.1.length<4000000∧∀ e2∈e1.2.2.2.2.2.1,(e2.1.length<4000000)∧(e2.2.1.length<4000000)∧(e2.2.2.1.length<4000000)))∧(e0.2.2.2.2.1.length<4000000)))∧((x.1.2.1.1.length<4000000∧∀ e0∈x.1.2.1.1,(e0.1.size<4000000)∧(e0.2.2.1.length<4000000))∧(x.1.2.1.2.1.length<4000000∧∀ e0∈x.1.2.1.2.1,e0.size<4000000)∧(x.1.2.1.2.2.1.length<4000000∧∀ e0∈x.1.2.1.2.2.1,(e0.1.size<4000000)))∧(x.1.2.2.1.length<4000000∧∀ e0∈x.1.2.2.1,(e0.1.length<4000000)∧(e0.2.1.length<4000000)∧(e0.2.2.1.length<4000000)∧(e0.2.2.2.1.length<4000000)))∧((x.2.1.1.size<4000000))∧(x.2.2.1.length<4000000)∧(x.2.2.2.1.length<4000000))):=by
 have hm:=q28
 unfold F_21
 dsimp only
 have hf0:=hf.1
 refine Ret.bind (q748 hN x.1 room ⟨by omega,by omega⟩ hf0 ()) ?_
 rintro ⟨r0,v0⟩ ⟨a0,b0⟩
 dsimp only at a0 b0 ⊢
 refine Ret.ifd ?_ ?_ <;> intro g0
 ·exact Ret.ret ⟨by show (-1:Int)≤room; omega,fun h=>absurd h (by decide)⟩
 have hf1:=hf.2.1
 refine Ret.bind (q681 hN x.2.1 r0 ⟨by omega,by omega⟩ hf1 ()) ?_
 rintro ⟨r1,v1⟩ ⟨a1,b1⟩
 dsimp only at a1 b1 ⊢
 refine Ret.ifd ?_ ?_ <;> intro g1
 ·exact Ret.ret ⟨by show (-1:Int)≤room; omega,fun h=>absurd h (by decide)⟩
 have hf2:=hf.2.2.1
 refine Ret.bind (q76 hN x.2.2.1 r1 ⟨by omega,by omega⟩ hf2 ()) ?_
 rintro ⟨r2,v2⟩ ⟨a2,b2⟩
 dsimp only at a2 b2 ⊢
 refine Ret.ifd ?_ ?_ <;> intro g2
 ·exact Ret.ret ⟨by show (-1:Int)≤room; omega,fun h=>absurd h (by decide)⟩
 have hf3:=hf.2.2.2.1
 refine Ret.bind (q630 hN x.2.2.2.1 r2 ⟨by omega,by omega⟩ hf3 ()) ?_
 rintro ⟨r3,v3⟩ ⟨a3,b3⟩
 dsimp only at a3 b3 ⊢
 refine Ret.ifd ?_ ?_ <;> intro g3
 ·exact Ret.ret ⟨by show (-1:Int)≤room; omega,fun h=>absurd h (by decide)⟩
 exact Ret.ret ⟨by show r3≤room; omega,fun _=>⟨b0 (by omega),b1 (by omega),b2 (by omega),b3 (by omega)⟩⟩
theorem to_Pin {N:Nat} (hN:4000000≤N) (x:DPin) (hs:(x.1.size<4000000)) (u:Unit):F_22 N (x,u)=some (x,()):=by
 unfold F_22
 rfl
theorem q802 {N:Nat} (hN:4000000≤N) (x:List DPin) (hs:x.length<4000000∧∀ e0∈x,(e0.1.size<4000000)) (u:Unit):F_23 N (x,u)=some (x,()):=by
 unfold F_23
 have hl:=hs.1
 refine (q66 hl).trans ?_
 exact q103 _ (fun e=>F_22 N (e,())) (fun e he=>to_Pin hN e (hs.2 e he) ()) hl hN
theorem q56 {N:Nat} (hN:4000000≤N) (x:List (Int)) (hs:x.length<4000000) (u:Unit):F_24 N (x,u)=some (x,()):=by
 unfold F_24
 have hl:=hs
 refine (q66 hl).trans ?_
 exact q722 _ hl hN
theorem q749 {N:Nat} (hN:4000000≤N) (x:DTable) (hs:(x.1.length<4000000)∧(x.2.1.length<4000000)∧(x.2.2.1.length<4000000)) (u:Unit):F_25 N (x,u)=some (x,()):=by
 unfold F_25
 refine (q22 (q56 hN x.1 (hs.1) ())).trans ?_
 refine (q22 (q56 hN x.2.1 (hs.2.1) ())).trans ?_
 refine (q22 (q56 hN x.2.2.1 (hs.2.2) ())).trans ?_
 rfl
theorem q534 {N:Nat} (hN:4000000≤N) (x:List DTable) (hs:x.length<4000000∧∀ e0∈x,(e0.1.length<4000000)∧(e0.2.1.length<4000000)∧(e0.2.2.1.length<4000000)) (u:Unit):F_26 N (x,u)=some (x,()):=by
 unfold F_26
 have hl:=hs.1
 refine (q66 hl).trans ?_
 exact q103 _ (fun e=>F_25 N (e,())) (fun e he=>q749 hN e (hs.2 e he) ()) hl hN
theorem to_Arc {N:Nat} (hN:4000000≤N) (x:DArc) (hs:(x.2.2.2.2.1.length<4000000∧∀ e0∈x.2.2.2.2.1,(e0.1.length<4000000)∧(e0.2.1.length<4000000)∧(e0.2.2.1.length<4000000))∧(x.2.2.2.2.2.1.length<4000000∧∀ e0∈x.2.2.2.2.2.1,(e0.1.length<4000000)∧(e0.2.1.length<4000000)∧(e0.2.2.1.length<4000000))) (u:Unit):F_27 N (x,u)=some (x,()):=by
 unfold F_27
 refine (q22 (q534 hN x.2.2.2.2.1 (hs.1) ())).trans ?_
 refine (q22 (q534 hN x.2.2.2.2.2.1 (hs.2) ())).trans ?_
 rfl
theorem q788 {N:Nat} (hN:4000000≤N) (x:List DArc) (hs:x.length<4000000∧∀ e0∈x,(e0.2.2.2.2.1.length<4000000∧∀ e1∈e0.2.2.2.2.1,(e1.1.length<4000000)∧(e1.2.1.length<4000000)∧(e1.2.2.1.length<4000000))∧(e0.2.2.2.2.2.1.length<4000000∧∀ e1∈e0.2.2.2.2.2.1,(e1.1.length<4000000)∧(e1.2.1.length<4000000)∧(e1.2.2.1.length<4000000))) (u:Unit):F_28 N (x,u)=some (x,()):=by
 unfold F_28
 have hl:=hs.1
 refine (q66 hl).trans ?_
 exact q103 _ (fun e=>F_27 N (e,())) (fun e he=>to_Arc hN e (hs.2 e he) ()) hl hN
theorem q800 {N:Nat} (hN:4000000≤N) (x:DCell) (hs:(x.1.size<4000000)∧(x.2.2.1.length<4000000∧∀ e0∈x.2.2.1,(e0.1.size<4000000))∧(x.2.2.2.1.length<4000000∧∀ e0∈x.2.2.2.1,(e0.2.2.2.2.1.length<4000000∧∀ e1∈e0.2.2.2.2.1,(e1.1.length<4000000)∧(e1.2.1.length<4000000)∧(e1.2.2.1.length<4000000))∧(e0.2.2.2.2.2.1.length<4000000∧∀ e1∈e0.2.2.2.2.2.1,(e1.1.length<4000000)∧(e1.2.1.length<4000000)∧(e1.2.2.1.length<4000000)))∧(x.2.2.2.2.1.length<4000000)) (u:Unit):F_29 N (x,u)=some (x,()):=by
 unfold F_29
 refine (q22 (q802 hN x.2.2.1 (hs.2.1) ())).trans ?_
 refine (q22 (q788 hN x.2.2.2.1 (hs.2.2.1) ())).trans ?_
 refine (q22 (q56 hN x.2.2.2.2.1 (hs.2.2.2) ())).trans ?_
 rfl
theorem q742 {N:Nat} (hN:4000000≤N) (x:List DCell) (hs:x.length<4000000∧∀ e0∈x,(e0.1.size<4000000)∧(e0.2.2.1.length<4000000∧∀ e1∈e0.2.2.1,(e1.1.size<4000000))∧(e0.2.2.2.1.length<4000000∧∀ e1∈e0.2.2.2.1,(e1.2.2.2.2.1.length<4000000∧∀ e2∈e1.2.2.2.2.1,(e2.1.length<4000000)∧(e2.2.1.length<4000000)∧(e2.2.2.1.length<4000000))∧(e1.2.2.2.2.2.1.length<4000000∧∀ e2∈e1.2.2.2.2.2.1,(e2.1.length<4000000)∧(e2.2.1.length<4000000)∧(e2.2.2.1.length<4000000)))∧(e0.2.2.2.2.1.length<4000000)) (u:Unit):F_30 N (x,u)=some (x,()):=by
 unfold F_30
 have hl:=hs.1
 refine (q66 hl).trans ?_
 exact q103 _ (fun e=>F_29 N (e,())) (fun e he=>q800 hN e (hs.2 e he) ()) hl hN
theorem q649 {N:Nat} (hN:4000000≤N) (x:DLibrary) (hs:(x.1.length<4000000∧∀ e0∈x.1,(e0.1.size<4000000)∧(e0.2.2.1.length<4000000∧∀ e1∈e0.2.2.1,(e1.1.size<4000000))∧(e0.2.2.2.1.length<4000000∧∀ e1∈e0.2.2.2.1,(e1.2.2.2.2.1.length<4000000∧∀ e2∈e1.2.2.2.2.1,(e2.1.length<4000000)∧(e2.2.1.length<4000000)∧(e2.2.2.1.length<4000000))∧(e1.2.2.2.2.2.1.length<4000000∧∀ e2∈e1.2.2.2.2.2.1,(e2.1.length<4000000)∧(e2.2.1.length<4000000)∧(e2.2.2.1.length<4000000)))∧(e0.2.2.2.2.1.length<4000000))) (u:Unit):F_31 N (x,u)=some (x,()):=by
 unfold F_31
 refine (q22 (q742 hN x.1 (hs) ())).trans ?_
 rfl
theorem q552 {N:Nat} (hN:4000000≤N) (x:DInstance) (hs:(x.1.size<4000000)∧(x.2.2.1.length<4000000)) (u:Unit):F_32 N (x,u)=some (x,()):=by
 unfold F_32
 refine (q22 (q56 hN x.2.2.1 (hs.2) ())).trans ?_
 rfl
theorem q475 {N:Nat} (hN:4000000≤N) (x:List DInstance) (hs:x.length<4000000∧∀ e0∈x,(e0.1.size<4000000)∧(e0.2.2.1.length<4000000)) (u:Unit):F_33 N (x,u)=some (x,()):=by
 unfold F_33
 have hl:=hs.1
 refine (q66 hl).trans ?_
 exact q103 _ (fun e=>F_32 N (e,())) (fun e he=>q552 hN e (hs.2 e he) ()) hl hN
theorem q629 {N:Nat} (hN:4000000≤N) (x:List (ByteArray)) (hs:x.length<4000000∧∀ e0∈x,e0.size<4000000) (u:Unit):F_34 N (x,u)=some (x,()):=by
 unfold F_34
 have hl:=hs.1
 refine (q66 hl).trans ?_
 exact q722 _ hl hN
theorem q799 {N:Nat} (hN:4000000≤N) (x:DPort) (hs:(x.1.size<4000000)) (u:Unit):F_35 N (x,u)=some (x,()):=by
 unfold F_35
 rfl
theorem q755 {N:Nat} (hN:4000000≤N) (x:List DPort) (hs:x.length<4000000∧∀ e0∈x,(e0.1.size<4000000)) (u:Unit):F_36 N (x,u)=some (x,()):=by
 unfold F_36
 have hl:=hs.1
 refine (q66 hl).trans ?_
 exact q103 _ (fun e=>F_35 N (e,())) (fun e he=>q799 hN e (hs.2 e he) ()) hl hN
theorem q717 {N:Nat} (hN:4000000≤N) (x:DDesign) (hs:(x.1.length<4000000∧∀ e0∈x.1,(e0.1.size<4000000)∧(e0.2.2.1.length<4000000))∧(x.2.1.length<4000000∧∀ e0∈x.2.1,e0.size<4000000)∧(x.2.2.1.length<4000000∧∀ e0∈x.2.2.1,(e0.1.size<4000000))) (u:Unit):F_37 N (x,u)=some (x,()):=by
 unfold F_37
 refine (q22 (q475 hN x.1 (hs.1) ())).trans ?_
 refine (q22 (q629 hN x.2.1 (hs.2.1) ())).trans ?_
 refine (q22 (q755 hN x.2.2.1 (hs.2.2) ())).trans ?_
 rfl
theorem q803 {N:Nat} (hN:4000000≤N) (x:DWire) (hs:(x.1.length<4000000)∧(x.2.1.length<4000000)∧(x.2.2.1.length<4000000)∧(x.2.2.2.1.length<4000000)) (u:Unit):F_38 N (x,u)=some (x,()):=by
 unfold F_38
 refine (q22 (q56 hN x.1 (hs.1) ())).trans ?_
 refine (q22 (q56 hN x.2.1 (hs.2.1) ())).trans ?_
 refine (q22 (q56 hN x.2.2.1 (hs.2.2.1) ())).trans ?_
 refine (q22 (q56 hN x.2.2.2.1 (hs.2.2.2) ())).trans ?_
 rfl
theorem q743 {N:Nat} (hN:4000000≤N) (x:List DWire) (hs:x.length<4000000∧∀ e0∈x,(e0.1.length<4000000)∧(e0.2.1.length<4000000)∧(e0.2.2.1.length<4000000)∧(e0.2.2.2.1.length<4000000)) (u:Unit):F_39 N (x,u)=some (x,()):=by
 unfold F_39
 have hl:=hs.1
 refine (q66 hl).trans ?_
 exact q103 _ (fun e=>F_38 N (e,())) (fun e he=>q803 hN e (hs.2 e he) ()) hl hN
theorem q771 {N:Nat} (hN:4000000≤N) (x:DBlock) (hs:((x.1.1.length<4000000∧∀ e0∈x.1.1,(e0.1.size<4000000)∧(e0.2.2.1.length<4000000∧∀ e1∈e0.2.2.1,(e1.1.size<4000000))∧(e0.2.2.2.1.length<4000000∧∀ e1∈e0.2.2.2.1,(e1.2.2.2.2.1.length<4000000∧∀ e2∈e1.2.2.2.2.1,(e2.1.length<4000000)∧(e2.2.1.length<4000000)∧(e2.2.2.1.length<4000000))∧(e1.2.2.2.2.2.1.length<4000000∧∀ e2∈e1.2.2.2.2.2.1,(e2.1.length<4000000)∧(e2.2.1.length<4000000)∧(e2.2.2.1.length<4000000)))∧(e0.2.2.2.2.1.length<4000000)))∧((x.2.1.1.length<4000000∧∀ e0∈x.2.1.1,(e0.1.size<4000000)∧(e0.2.2.1.length<4000000))∧(x.2.1.2.1.length<4000000∧∀ e0∈x.2.1.2.1,e0.size<4000000)∧(x.2.1.2.2.1.length<4000000∧∀ e0∈x.2.1.2.2.1,(e0.1.size<4000000)))∧(x.2.2.1.length<4000000∧∀ e0∈x.2.2.1,(e0.1.length<4000000)∧(e0.2.1.length<4000000)∧(e0.2.2.1.length<4000000)∧(e0.2.2.2.1.length<4000000))) (u:Unit):F_40 N (x,u)=some (x,()):=by
 unfold F_40
 refine (q22 (q649 hN x.1 (hs.1) ())).trans ?_
 refine (q22 (q717 hN x.2.1 (hs.2.1) ())).trans ?_
 refine (q22 (q743 hN x.2.2.1 (hs.2.2) ())).trans ?_
 rfl
theorem q686 {N:Nat} (hN:4000000≤N) (x:DCorner) (hs:(x.1.size<4000000)) (u:Unit):F_41 N (x,u)=some (x,()):=by
 unfold F_41
 rfl
theorem q695 {N:Nat} (hN:4000000≤N) (x:DSpan) (hs:True) (u:Unit):F_42 N (x,u)=some (x,()):=by
 unfold F_42
 rfl
theorem q698 {N:Nat} (hN:4000000≤N) (x:DSource) (hs:True) (u:Unit):F_43 N (x,u)=some (x,()):=by
 unfold F_43
 refine (q22 (q695 hN x.2.1 trivial ())).trans ?_
 refine (q22 (q695 hN x.2.2.1 trivial ())).trans ?_
 rfl
theorem q632 {N:Nat} (hN:4000000≤N) (x:List DSource) (hs:x.length<4000000) (u:Unit):F_44 N (x,u)=some (x,()):=by
 unfold F_44
 have hl:=hs
 refine (q66 hl).trans ?_
 exact q103 _ (fun e=>F_43 N (e,())) (fun e he=>q698 hN e trivial ()) hl hN
theorem to_Job {N:Nat} (hN:4000000≤N) (x:DJob) (hs:(((x.1.1.1.length<4000000∧∀ e0∈x.1.1.1,(e0.1.size<4000000)∧(e0.2.2.1.length<4000000∧∀ e1∈e0.2.2.1,(e1.1.size<4000000))∧(e0.2.2.2.1.length<4000000∧∀ e1∈e0.2.2.2.1,(e1.2.2.2.2.1.length<4000000∧∀ e2∈e1.2.2.2.2.1,(e2.1.length<4000000)∧(e2.2.1.length<4000000)∧(e2.2.2.1.length<4000000))∧(e1.2.2.2.2.2.1.length<4000000∧∀ e2∈e1.2.2.2.2.2.1,(e2.1.length<4000000)∧(e2.2.1.length<4000000)∧(e2.2.2.1.length<4000000)))∧(e0.2.2.2.2.1.length<4000000)))∧((x.1.2.1.1.length<4000000∧∀ e0∈x.1.2.1.1,(e0.1.size<4000000)∧(e0.2.2.1.length<4000000))∧(x.1.2.1.2.1.length<4000000∧∀ e0∈x.1.2.1.2.1,e0.size<4000000)∧(x.1.2.1.2.2.1.length<4000000∧∀ e0∈x.1.2.1.2.2.1,(e0.1.size<4000000)))∧(x.1.2.2.1.length<4000000∧∀ e0∈x.1.2.2.1,(e0.1.length<4000000)∧(e0.2.1.length<4000000)∧(e0.2.2.1.length<4000000)∧(e0.2.2.2.1.length<4000000)))∧((x.2.1.1.size<4000000))∧(x.2.2.1.length<4000000)∧(x.2.2.2.1.length<4000000)) (u:Unit):F_45 N (x,u)=some (x,()):=by
 unfold F_45
 refine (q22 (q771 hN x.1 (hs.1) ())).trans ?_
 refine (q22 (q686 hN x.2.1 (hs.2.1) ())).trans ?_
 refine (q22 (q56 hN x.2.2.1 (hs.2.2.1) ())).trans ?_
 refine (q22 (q632 hN x.2.2.2.1 (hs.2.2.2) ())).trans ?_
 rfl
theorem eq_Pin {N:Nat} (hN:4000000≤N) (x y:DPin) (hs:(x.1.size<4000000)) (u:Unit):F_251 N (x,y,u)=some (dec (x=y),()):=by
 refine Ret.tells ?_
 unfold F_251
 obtain ⟨x0,x1,x2,x3,ux⟩:=x
 obtain ⟨y0,y1,y2,y3,uy⟩:=y
 dsimp only
 refine Ret.ifnd ?_ ?_ <;> intro g0
 ·exact Ret.ret (q6.2 (fun h=>g0 (congrArg (fun z=>z.1) h)))
 refine Ret.ifnd ?_ ?_ <;> intro g1
 ·exact Ret.ret (q6.2 (fun h=>g1 (congrArg (fun z=>z.2.1) h)))
 refine Ret.ifnd ?_ ?_ <;> intro g2
 ·exact Ret.ret (q6.2 (fun h=>g2 (congrArg (fun z=>z.2.2.1) h)))
 refine Ret.bif ?_ ?_ <;> intro g3
 ·exact Ret.ret (q6.2 fun h=>by have e:=congrArg (fun z=>z.2.2.2.1) h; dsimp only at e; subst e; simp at g3)
 have g3:x3=y3:=by simpa using g3
 subst g0 g1 g2 g3
 exact Ret.ret (q14.2 rfl)
theorem q804 {N:Nat} (hN:4000000≤N) (x y:List DPin) (hs:x.length<4000000∧∀ e0∈x,(e0.1.size<4000000)) (u:Unit):F_252 N (x,y,u)=some (dec (x=y),()):=by
 unfold F_252
 exact q92 (fun e f=>F_251 N (e,f,())) (fun e he f _=>eq_Pin hN e f (hs.2 e he) ()) (hs.1) hN
theorem q69 {N:Nat} (hN:4000000≤N) (x y:List (Int)) (hs:x.length<4000000) (u:Unit):F_253 N (x,y,u)=some (dec (x=y),()):=by
 unfold F_253
 exact q516 (hs) hN
theorem q746 {N:Nat} (hN:4000000≤N) (x y:DTable) (hs:(x.1.length<4000000)∧(x.2.1.length<4000000)∧(x.2.2.1.length<4000000)) (u:Unit):F_254 N (x,y,u)=some (dec (x=y),()):=by
 refine Ret.tells ?_
 unfold F_254
 obtain ⟨x0,x1,x2,ux⟩:=x
 obtain ⟨y0,y1,y2,uy⟩:=y
 dsimp only
 refine Ret.call (q69 hN x0 y0 (hs.1) ()) (Ret.ifnc ?_ ?_) <;> intro g0
 ·exact Ret.ret (q6.2 (fun h=>g0 (congrArg (fun z=>z.1) h)))
 refine Ret.call (q69 hN x1 y1 (hs.2.1) ()) (Ret.ifnc ?_ ?_) <;> intro g1
 ·exact Ret.ret (q6.2 (fun h=>g1 (congrArg (fun z=>z.2.1) h)))
 refine Ret.call (q69 hN x2 y2 (hs.2.2) ()) (Ret.ifnc ?_ ?_) <;> intro g2
 ·exact Ret.ret (q6.2 (fun h=>g2 (congrArg (fun z=>z.2.2.1) h)))
 subst g0 g1 g2
 exact Ret.ret (q14.2 rfl)
theorem q503 {N:Nat} (hN:4000000≤N) (x y:List DTable) (hs:x.length<4000000∧∀ e0∈x,(e0.1.length<4000000)∧(e0.2.1.length<4000000)∧(e0.2.2.1.length<4000000)) (u:Unit):F_255 N (x,y,u)=some (dec (x=y),()):=by
 unfold F_255
 exact q92 (fun e f=>F_254 N (e,f,())) (fun e he f _=>q746 hN e f (hs.2 e he) ()) (hs.1) hN
theorem eq_Arc {N:Nat} (hN:4000000≤N) (x y:DArc) (hs:(x.2.2.2.2.1.length<4000000∧∀ e0∈x.2.2.2.2.1,(e0.1.length<4000000)∧(e0.2.1.length<4000000)∧(e0.2.2.1.length<4000000))∧(x.2.2.2.2.2.1.length<4000000∧∀ e0∈x.2.2.2.2.2.1,(e0.1.length<4000000)∧(e0.2.1.length<4000000)∧(e0.2.2.1.length<4000000))) (u:Unit):F_256 N (x,y,u)=some (dec (x=y),()):=by
 refine Ret.tells ?_
 unfold F_256
 obtain ⟨x0,x1,x2,x3,x4,x5,ux⟩:=x
 obtain ⟨y0,y1,y2,y3,y4,y5,uy⟩:=y
 dsimp only
 refine Ret.ifnd ?_ ?_ <;> intro g0
 ·exact Ret.ret (q6.2 (fun h=>g0 (congrArg (fun z=>z.1) h)))
 refine Ret.ifnd ?_ ?_ <;> intro g1
 ·exact Ret.ret (q6.2 (fun h=>g1 (congrArg (fun z=>z.2.1) h)))
 refine Ret.ifnd ?_ ?_ <;> intro g2
 ·exact Ret.ret (q6.2 (fun h=>g2 (congrArg (fun z=>z.2.2.1) h)))
 refine Ret.ifnd ?_ ?_ <;> intro g3
 ·exact Ret.ret (q6.2 (fun h=>g3 (congrArg (fun z=>z.2.2.2.1) h)))
 refine Ret.call (q503 hN x4 y4 (hs.1) ()) (Ret.ifnc ?_ ?_) <;> intro g4
 ·exact Ret.ret (q6.2 (fun h=>g4 (congrArg (fun z=>z.2.2.2.2.1) h)))
 refine Ret.call (q503 hN x5 y5 (hs.2) ()) (Ret.ifnc ?_ ?_) <;> intro g5
 ·exact Ret.ret (q6.2 (fun h=>g5 (congrArg (fun z=>z.2.2.2.2.2.1) h)))
 subst g0 g1 g2 g3 g4 g5
 exact Ret.ret (q14.2 rfl)
theorem q790 {N:Nat} (hN:4000000≤N) (x y:List DArc) (hs:x.length<4000000∧∀ e0∈x,(e0.2.2.2.2.1.length<4000000∧∀ e1∈e0.2.2.2.2.1,(e1.1.length<4000000)∧(e1.2.1.length<4000000)∧(e1.2.2.1.length<4000000))∧(e0.2.2.2.2.2.1.length<4000000∧∀ e1∈e0.2.2.2.2.2.1,(e1.1.length<4000000)∧(e1.2.1.length<4000000)∧(e1.2.2.1.length<4000000))) (u:Unit):F_257 N (x,y,u)=some (dec (x=y),()):=by
 unfold F_257
 exact q92 (fun e f=>F_256 N (e,f,())) (fun e he f _=>eq_Arc hN e f (hs.2 e he) ()) (hs.1) hN
theorem q787 {N:Nat} (hN:4000000≤N) (x y:DCell) (hs:(x.1.size<4000000)∧(x.2.2.1.length<4000000∧∀ e0∈x.2.2.1,(e0.1.size<4000000))∧(x.2.2.2.1.length<4000000∧∀ e0∈x.2.2.2.1,(e0.2.2.2.2.1.length<4000000∧∀ e1∈e0.2.2.2.2.1,(e1.1.length<4000000)∧(e1.2.1.length<4000000)∧(e1.2.2.1.length<4000000))∧(e0.2.2.2.2.2.1.length<4000000∧∀ e1∈e0.2.2.2.2.2.1,(e1.1.length<4000000)∧(e1.2.1.length<4000000)∧(e1.2.2.1.length<4000000)))∧(x.2.2.2.2.1.length<4000000)) (u:Unit):F_258 N (x,y,u)=some (dec (x=y),()):=by
 refine Ret.tells ?_
 unfold F_258
 obtain ⟨x0,x1,x2,x3,x4,x5,x6,ux⟩:=x
 obtain ⟨y0,y1,y2,y3,y4,y5,y6,uy⟩:=y
 dsimp only
 refine Ret.ifnd ?_ ?_ <;> intro g0
 ·exact Ret.ret (q6.2 (fun h=>g0 (congrArg (fun z=>z.1) h)))
 refine Ret.ifnd ?_ ?_ <;> intro g1
 ·exact Ret.ret (q6.2 (fun h=>g1 (congrArg (fun z=>z.2.1) h)))
 refine Ret.call (q804 hN x2 y2 (hs.2.1) ()) (Ret.ifnc ?_ ?_) <;> intro g2
 ·exact Ret.ret (q6.2 (fun h=>g2 (congrArg (fun z=>z.2.2.1) h)))
 refine Ret.call (q790 hN x3 y3 (hs.2.2.1) ()) (Ret.ifnc ?_ ?_) <;> intro g3
 ·exact Ret.ret (q6.2 (fun h=>g3 (congrArg (fun z=>z.2.2.2.1) h)))
 refine Ret.call (q69 hN x4 y4 (hs.2.2.2) ()) (Ret.ifnc ?_ ?_) <;> intro g4
 ·exact Ret.ret (q6.2 (fun h=>g4 (congrArg (fun z=>z.2.2.2.2.1) h)))
 refine Ret.ifnd ?_ ?_ <;> intro g5
 ·exact Ret.ret (q6.2 (fun h=>g5 (congrArg (fun z=>z.2.2.2.2.2.1) h)))
 refine Ret.ifnd ?_ ?_ <;> intro g6
 ·exact Ret.ret (q6.2 (fun h=>g6 (congrArg (fun z=>z.2.2.2.2.2.2.1) h)))
 subst g0 g1 g2 g3 g4 g5 g6
 exact Ret.ret (q14.2 rfl)
theorem q767 {N:Nat} (hN:4000000≤N) (x y:List DCell) (hs:x.length<4000000∧∀ e0∈x,(e0.1.size<4000000)∧(e0.2.2.1.length<4000000∧∀ e1∈e0.2.2.1,(e1.1.size<4000000))∧(e0.2.2.2.1.length<4000000∧∀ e1∈e0.2.2.2.1,(e1.2.2.2.2.1.length<4000000∧∀ e2∈e1.2.2.2.2.1,(e2.1.length<4000000)∧(e2.2.1.length<4000000)∧(e2.2.2.1.length<4000000))∧(e1.2.2.2.2.2.1.length<4000000∧∀ e2∈e1.2.2.2.2.2.1,(e2.1.length<4000000)∧(e2.2.1.length<4000000)∧(e2.2.2.1.length<4000000)))∧(e0.2.2.2.2.1.length<4000000)) (u:Unit):F_259 N (x,y,u)=some (dec (x=y),()):=by
 unfold F_259
 exact q92 (fun e f=>F_258 N (e,f,())) (fun e he f _=>q787 hN e f (hs.2 e he) ()) (hs.1) hN
theorem q648 {N:Nat} (hN:4000000≤N) (x y:DLibrary) (hs:(x.1.length<4000000∧∀ e0∈x.1,(e0.1.size<4000000)∧(e0.2.2.1.length<4000000∧∀ e1∈e0.2.2.1,(e1.1.size<4000000))∧(e0.2.2.2.1.length<4000000∧∀ e1∈e0.2.2.2.1,(e1.2.2.2.2.1.length<4000000∧∀ e2∈e1.2.2.2.2.1,(e2.1.length<4000000)∧(e2.2.1.length<4000000)∧(e2.2.2.1.length<4000000))∧(e1.2.2.2.2.2.1.length<4000000∧∀ e2∈e1.2.2.2.2.2.1,(e2.1.length<4000000)∧(e2.2.1.length<4000000)∧(e2.2.2.1.length<4000000)))∧(e0.2.2.2.2.1.length<4000000))) (u:Unit):F_260 N (x,y,u)=some (dec (x=y),()):=by
 refine Ret.tells ?_
 unfold F_260
 obtain ⟨x0,ux⟩:=x
 obtain ⟨y0,uy⟩:=y
 dsimp only
 refine Ret.call (q767 hN x0 y0 (hs) ()) (Ret.ifnc ?_ ?_) <;> intro g0
 ·exact Ret.ret (q6.2 (fun h=>g0 (congrArg (fun z=>z.1) h)))
 subst g0
 exact Ret.ret (q14.2 rfl)
theorem q562 {N:Nat} (hN:4000000≤N) (x y:DInstance) (hs:(x.1.size<4000000)∧(x.2.2.1.length<4000000)) (u:Unit):F_261 N (x,y,u)=some (dec (x=y),()):=by
 refine Ret.tells ?_
 unfold F_261
 obtain ⟨x0,x1,x2,ux⟩:=x
 obtain ⟨y0,y1,y2,uy⟩:=y
 dsimp only
 refine Ret.ifnd ?_ ?_ <;> intro g0
 ·exact Ret.ret (q6.2 (fun h=>g0 (congrArg (fun z=>z.1) h)))
 refine Ret.ifnd ?_ ?_ <;> intro g1
 ·exact Ret.ret (q6.2 (fun h=>g1 (congrArg (fun z=>z.2.1) h)))
 refine Ret.call (q69 hN x2 y2 (hs.2) ()) (Ret.ifnc ?_ ?_) <;> intro g2
 ·exact Ret.ret (q6.2 (fun h=>g2 (congrArg (fun z=>z.2.2.1) h)))
 subst g0 g1 g2
 exact Ret.ret (q14.2 rfl)
theorem q462 {N:Nat} (hN:4000000≤N) (x y:List DInstance) (hs:x.length<4000000∧∀ e0∈x,(e0.1.size<4000000)∧(e0.2.2.1.length<4000000)) (u:Unit):F_262 N (x,y,u)=some (dec (x=y),()):=by
 unfold F_262
 exact q92 (fun e f=>F_261 N (e,f,())) (fun e he f _=>q562 hN e f (hs.2 e he) ()) (hs.1) hN
theorem q633 {N:Nat} (hN:4000000≤N) (x y:List (ByteArray)) (hs:x.length<4000000∧∀ e0∈x,e0.size<4000000) (u:Unit):F_263 N (x,y,u)=some (dec (x=y),()):=by
 unfold F_263
 exact q516 (hs.1) hN
theorem q808 {N:Nat} (hN:4000000≤N) (x y:DPort) (hs:(x.1.size<4000000)) (u:Unit):F_264 N (x,y,u)=some (dec (x=y),()):=by
 refine Ret.tells ?_
 unfold F_264
 obtain ⟨x0,x1,x2,ux⟩:=x
 obtain ⟨y0,y1,y2,uy⟩:=y
 dsimp only
 refine Ret.ifnd ?_ ?_ <;> intro g0
 ·exact Ret.ret (q6.2 (fun h=>g0 (congrArg (fun z=>z.1) h)))
 refine Ret.ifnd ?_ ?_ <;> intro g1
 ·exact Ret.ret (q6.2 (fun h=>g1 (congrArg (fun z=>z.2.1) h)))
 refine Ret.ifnd ?_ ?_ <;> intro g2
 ·exact Ret.ret (q6.2 (fun h=>g2 (congrArg (fun z=>z.2.2.1) h)))
 subst g0 g1 g2
 exact Ret.ret (q14.2 rfl)
theorem q776 {N:Nat} (hN:4000000≤N) (x y:List DPort) (hs:x.length<4000000∧∀ e0∈x,(e0.1.size<4000000)) (u:Unit):F_265 N (x,y,u)=some (dec (x=y),()):=by
 unfold F_265
 exact q92 (fun e f=>F_264 N (e,f,())) (fun e he f _=>q808 hN e f (hs.2 e he) ()) (hs.1) hN
theorem q679 {N:Nat} (hN:4000000≤N) (x y:DDesign) (hs:(x.1.length<4000000∧∀ e0∈x.1,(e0.1.size<4000000)∧(e0.2.2.1.length<4000000))∧(x.2.1.length<4000000∧∀ e0∈x.2.1,e0.size<4000000)∧(x.2.2.1.length<4000000∧∀ e0∈x.2.2.1,(e0.1.size<4000000))) (u:Unit):F_266 N (x,y,u)=some (dec (x=y),()):=by
 refine Ret.tells ?_
 unfold F_266
 obtain ⟨x0,x1,x2,ux⟩:=x
 obtain ⟨y0,y1,y2,uy⟩:=y
 dsimp only
 refine Ret.call (q462 hN x0 y0 (hs.1) ()) (Ret.ifnc ?_ ?_) <;> intro g0
 ·exact Ret.ret (q6.2 (fun h=>g0 (congrArg (fun z=>z.1) h)))
 refine Ret.call (q633 hN x1 y1 (hs.2.1) ()) (Ret.ifnc ?_ ?_) <;> intro g1
 ·exact Ret.ret (q6.2 (fun h=>g1 (congrArg (fun z=>z.2.1) h)))
 refine Ret.call (q776 hN x2 y2 (hs.2.2) ()) (Ret.ifnc ?_ ?_) <;> intro g2
 ·exact Ret.ret (q6.2 (fun h=>g2 (congrArg (fun z=>z.2.2.1) h)))
 subst g0 g1 g2
 exact Ret.ret (q14.2 rfl)
theorem q792 {N:Nat} (hN:4000000≤N) (x y:DWire) (hs:(x.1.length<4000000)∧(x.2.1.length<4000000)∧(x.2.2.1.length<4000000)∧(x.2.2.2.1.length<4000000)) (u:Unit):F_267 N (x,y,u)=some (dec (x=y),()):=by
 refine Ret.tells ?_
 unfold F_267
 obtain ⟨x0,x1,x2,x3,ux⟩:=x
 obtain ⟨y0,y1,y2,y3,uy⟩:=y
 dsimp only
 refine Ret.call (q69 hN x0 y0 (hs.1) ()) (Ret.ifnc ?_ ?_) <;> intro g0
 ·exact Ret.ret (q6.2 (fun h=>g0 (congrArg (fun z=>z.1) h)))
 refine Ret.call (q69 hN x1 y1 (hs.2.1) ()) (Ret.ifnc ?_ ?_) <;> intro g1
 ·exact Ret.ret (q6.2 (fun h=>g1 (congrArg (fun z=>z.2.1) h)))
 refine Ret.call (q69 hN x2 y2 (hs.2.2.1) ()) (Ret.ifnc ?_ ?_) <;> intro g2
 ·exact Ret.ret (q6.2 (fun h=>g2 (congrArg (fun z=>z.2.2.1) h)))
 refine Ret.call (q69 hN x3 y3 (hs.2.2.2) ()) (Ret.ifnc ?_ ?_) <;> intro g3
 ·exact Ret.ret (q6.2 (fun h=>g3 (congrArg (fun z=>z.2.2.2.1) h)))
 subst g0 g1 g2 g3
 exact Ret.ret (q14.2 rfl)
theorem q774 {N:Nat} (hN:4000000≤N) (x y:List DWire) (hs:x.length<4000000∧∀ e0∈x,(e0.1.length<4000000)∧(e0.2.1.length<4000000)∧(e0.2.2.1.length<4000000)∧(e0.2.2.2.1.length<4000000)) (u:Unit):F_268 N (x,y,u)=some (dec (x=y),()):=by
 unfold F_268
 exact q92 (fun e f=>F_267 N (e,f,())) (fun e he f _=>q792 hN e f (hs.2 e he) ()) (hs.1) hN
theorem q751 {N:Nat} (hN:4000000≤N) (x y:DBlock) (hs:((x.1.1.length<4000000∧∀ e0∈x.1.1,(e0.1.size<4000000)∧(e0.2.2.1.length<4000000∧∀ e1∈e0.2.2.1,(e1.1.size<4000000))∧(e0.2.2.2.1.length<4000000∧∀ e1∈e0.2.2.2.1,(e1.2.2.2.2.1.length<4000000∧∀ e2∈e1.2.2.2.2.1,(e2.1.length<4000000)∧(e2.2.1.length<4000000)∧(e2.2.2.1.length<4000000))∧(e1.2.2.2.2.2.1.length<4000000∧∀ e2∈e1.2.2.2.2.2.1,(e2.1.length<4000000)∧(e2.2.1.length<4000000)∧(e2.2.2.1.length<4000000)))∧(e0.2.2.2.2.1.length<4000000)))∧((x.2.1.1.length<4000000∧∀ e0∈x.2.1.1,(e0.1.size<4000000)∧(e0.2.2.1.length<4000000))∧(x.2.1.2.1.length<4000000∧∀ e0∈x.2.1.2.1,e0.size<4000000)∧(x.2.1.2.2.1.length<4000000∧∀ e0∈x.2.1.2.2.1,(e0.1.size<4000000)))∧(x.2.2.1.length<4000000∧∀ e0∈x.2.2.1,(e0.1.length<4000000)∧(e0.2.1.length<4000000)∧(e0.2.2.1.length<4000000)∧(e0.2.2.2.1.length<4000000))) (u:Unit):F_269 N (x,y,u)=some (dec (x=y),()):=by
 refine Ret.tells ?_
 unfold F_269
 obtain ⟨x0,x1,x2,ux⟩:=x
 obtain ⟨y0,y1,y2,uy⟩:=y
 dsimp only
 refine Ret.call (q648 hN x0 y0 (hs.1) ()) (Ret.ifnc ?_ ?_) <;> intro g0
 ·exact Ret.ret (q6.2 (fun h=>g0 (congrArg (fun z=>z.1) h)))
 refine Ret.call (q679 hN x1 y1 (hs.2.1) ()) (Ret.ifnc ?_ ?_) <;> intro g1
 ·exact Ret.ret (q6.2 (fun h=>g1 (congrArg (fun z=>z.2.1) h)))
 refine Ret.call (q774 hN x2 y2 (hs.2.2) ()) (Ret.ifnc ?_ ?_) <;> intro g2
 ·exact Ret.ret (q6.2 (fun h=>g2 (congrArg (fun z=>z.2.2.1) h)))
 subst g0 g1 g2
 exact Ret.ret (q14.2 rfl)
theorem q668 {N:Nat} (hN:4000000≤N) (x y:DCorner) (hs:(x.1.size<4000000)) (u:Unit):F_270 N (x,y,u)=some (dec (x=y),()):=by
 refine Ret.tells ?_
 unfold F_270
 obtain ⟨x0,x1,x2,x3,x4,ux⟩:=x
 obtain ⟨y0,y1,y2,y3,y4,uy⟩:=y
 dsimp only
 refine Ret.ifnd ?_ ?_ <;> intro g0
 ·exact Ret.ret (q6.2 (fun h=>g0 (congrArg (fun z=>z.1) h)))
 refine Ret.ifnd ?_ ?_ <;> intro g1
 ·exact Ret.ret (q6.2 (fun h=>g1 (congrArg (fun z=>z.2.1) h)))
 refine Ret.ifnd ?_ ?_ <;> intro g2
 ·exact Ret.ret (q6.2 (fun h=>g2 (congrArg (fun z=>z.2.2.1) h)))
 refine Ret.ifnd ?_ ?_ <;> intro g3
 ·exact Ret.ret (q6.2 (fun h=>g3 (congrArg (fun z=>z.2.2.2.1) h)))
 refine Ret.ifnd ?_ ?_ <;> intro g4
 ·exact Ret.ret (q6.2 (fun h=>g4 (congrArg (fun z=>z.2.2.2.2.1) h)))
 subst g0 g1 g2 g3 g4
 exact Ret.ret (q14.2 rfl)
theorem q688 {N:Nat} (hN:4000000≤N) (x y:DSpan) (hs:True) (u:Unit):F_271 N (x,y,u)=some (dec (x=y),()):=by
 refine Ret.tells ?_
 unfold F_271
 obtain ⟨x0,x1,ux⟩:=x
 obtain ⟨y0,y1,uy⟩:=y
 dsimp only
 refine Ret.ifnd ?_ ?_ <;> intro g0
 ·exact Ret.ret (q6.2 (fun h=>g0 (congrArg (fun z=>z.1) h)))
 refine Ret.ifnd ?_ ?_ <;> intro g1
 ·exact Ret.ret (q6.2 (fun h=>g1 (congrArg (fun z=>z.2.1) h)))
 subst g0 g1
 exact Ret.ret (q14.2 rfl)
theorem q720 {N:Nat} (hN:4000000≤N) (x y:DSource) (hs:True) (u:Unit):F_272 N (x,y,u)=some (dec (x=y),()):=by
 refine Ret.tells ?_
 unfold F_272
 obtain ⟨x0,x1,x2,ux⟩:=x
 obtain ⟨y0,y1,y2,uy⟩:=y
 dsimp only
 refine Ret.ifnd ?_ ?_ <;> intro g0
 ·exact Ret.ret (q6.2 (fun h=>g0 (congrArg (fun z=>z.1) h)))
 refine Ret.call (q688 hN x1 y1 trivial ()) (Ret.ifnc ?_ ?_) <;> intro g1
 ·exact Ret.ret (q6.2 (fun h=>g1 (congrArg (fun z=>z.2.1) h)))
 refine Ret.call (q688 hN x2 y2 trivial ()) (Ret.ifnc ?_ ?_) <;> intro g2
 ·exact Ret.ret (q6.2 (fun h=>g2 (congrArg (fun z=>z.2.2.1) h)))
 subst g0 g1 g2
 exact Ret.ret (q14.2 rfl)
theorem q650 {N:Nat} (hN:4000000≤N) (x y:List DSource) (hs:x.length<4000000) (u:Unit):F_273 N (x,y,u)=some (dec (x=y),()):=by
 unfold F_273
 exact q92 (fun e f=>F_272 N (e,f,())) (fun e he f _=>q720 hN e f trivial ()) (hs) hN
theorem eq_Job {N:Nat} (hN:4000000≤N) (x y:DJob) (hs:(((x.1.1.1.length<4000000∧∀ e0∈x.1.1.1,(e0.1.size<4000000)∧(e0.2.2.1.length<4000000∧∀ e1∈e0.2.2.1,(e1.1.size<4000000))∧(e0.2.2.2.1.length<4000000∧∀ e1∈e0.2.2.2.1,(e1.2.2.2.2.1.length<4000000∧∀ e2∈e1.2.2.2.2.1,(e2.1.length<4000000)∧(e2.2.1.length<4000000)∧(e2.2.2.1.length<4000000))∧(e1.2.2.2.2.2.1.length<4000000∧∀ e2∈e1.2.2.2.2.2.1,(e2.1.length<4000000)∧(e2.2.1.length<4000000)∧(e2.2.2.1.length<4000000)))∧(e0.2.2.2.2.1.length<4000000)))∧((x.1.2.1.1.length<4000000∧∀ e0∈x.1.2.1.1,(e0.1.size<4000000)∧(e0.2.2.1.length<4000000))∧(x.1.2.1.2.1.length<4000000∧∀ e0∈x.1.2.1.2.1,e0.size<4000000)∧(x.1.2.1.2.2.1.length<4000000∧∀ e0∈x.1.2.1.2.2.1,(e0.1.size<4000000)))∧(x.1.2.2.1.length<4000000∧∀ e0∈x.1.2.2.1,(e0.1.length<4000000)∧(e0.2.1.length<4000000)∧(e0.2.2.1.length<4000000)∧(e0.2.2.2.1.length<4000000)))∧((x.2.1.1.size<4000000))∧(x.2.2.1.length<4000000)∧(x.2.2.2.1.length<4000000)) (u:Unit):F_274 N (x,y,u)=some (dec (x=y),()):=by
 refine Ret.tells ?_
 unfold F_274
 obtain ⟨x0,x1,x2,x3,ux⟩:=x
 obtain ⟨y0,y1,y2,y3,uy⟩:=y
 dsimp only
 refine Ret.call (q751 hN x0 y0 (hs.1) ()) (Ret.ifnc ?_ ?_) <;> intro g0
 ·exact Ret.ret (q6.2 (fun h=>g0 (congrArg (fun z=>z.1) h)))
 refine Ret.call (q668 hN x1 y1 (hs.2.1) ()) (Ret.ifnc ?_ ?_) <;> intro g1
 ·exact Ret.ret (q6.2 (fun h=>g1 (congrArg (fun z=>z.2.1) h)))
 refine Ret.call (q69 hN x2 y2 (hs.2.2.1) ()) (Ret.ifnc ?_ ?_) <;> intro g2
 ·exact Ret.ret (q6.2 (fun h=>g2 (congrArg (fun z=>z.2.2.1) h)))
 refine Ret.call (q650 hN x3 y3 (hs.2.2.2) ()) (Ret.ifnc ?_ ?_) <;> intro g3
 ·exact Ret.ret (q6.2 (fun h=>g3 (congrArg (fun z=>z.2.2.2.1) h)))
 subst g0 g1 g2 g3
 exact Ret.ret (q14.2 rfl)
end Go.Proofs.YtegkebdjikhgmaaGreatDoor
