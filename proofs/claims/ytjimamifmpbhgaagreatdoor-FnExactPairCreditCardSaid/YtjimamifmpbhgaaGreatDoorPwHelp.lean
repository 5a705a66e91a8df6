/- The laws' own helpers: what they return. Printed by my lawgen.py. No program in sight. -/
import Derived.Test.YtjimamifmpbhgaaGreatDoorPvF1
import Derived.Test.YtjimamifmpbhgaaGreatDoorPgF
namespace Go.Proofs.YtjimamifmpbhgaaGreatDoor
set_option linter.unusedSimpArgs false
set_option linter.unusedVariables false
theorem sz_Pin {N:Nat} (hN:4000000≤N) (x:DPin) (room:Int) (h:0≤room∧room≤1048576) (hf:(TPin:Ty).fits x) (u:Unit):Ret (F_0 N (x,room,u)) (fun r=>r.1≤room∧(0≤r.1→(x.1.size < 4000000))):=by
 have hm:=maxLen_eq
 unfold F_0
 dsimp only
 have hf0:=hf.1
 rw [wrapI (n:=room - (x.1.size:Int)) (by omega) (by omega)]
 refine Ret.ifd ?_ ?_ <;> intro g0
 ·exact Ret.ret ⟨by show (-1:Int)≤room; omega,fun h=>absurd h (by decide)⟩
 exact Ret.ret ⟨by show (room - (x.1.size:Int))≤room; omega,fun _=>(by omega)⟩
theorem sz_PinS {N:Nat} (hN:4000000≤N) (x:List DPin) (room:Int) (h:0≤room∧room≤1048576) (hf:((.slice TPin):Ty).fits x) (u:Unit):Ret (F_1 N (x,room,u)) (fun r=>r.1≤room∧(0≤r.1→x.length < 4000000∧∀ e0 ∈ x,(e0.1.size < 4000000))):=by
 have hm:=maxLen_eq
 unfold F_1
 have hl:=hf.1
 dsimp only
 rw [wrapI (n:=room - (x.length:Int)) (by omega) (by omega)]
 refine Ret.ifd ?_ ?_ <;> intro h1
 ·exact Ret.ret ⟨by show (-1:Int)≤room; omega,fun h=>absurd h (by decide)⟩
 refine Ret.upM 0 x.length (fun i r _=>0≤r∧r≤room - (x.length:Int)∧∀ j,j < i→∀ h:j < x.length,(x[j].1.size < 4000000)) (by omega) (by omega) (by omega) ⟨by omega,by omega,upto_zero⟩ ?_ ?_
 ·rintro i r t next _ hi ⟨hr0,hr,hI⟩ hn
  have hfi:=hf.2 _ (List.getElem_mem hi)
  dsimp only
  refine Ret.must ?_ ?_
  ·omega
  refine Ret.atN hi (Ret.bind (sz_Pin hN x[i] r ⟨hr0,by omega⟩ hfi ()) ?_)
  rintro ⟨r2,v⟩ ⟨h2,h3⟩
  dsimp only at h2 h3 ⊢
  refine Ret.ifd ?_ ?_ <;> intro h4
  ·exact Ret.ret ⟨by show (-1:Int)≤room; omega,fun h=>absurd h (by decide)⟩
  ·exact hn _ _ ⟨by omega,by omega,upto_succ hI fun _=>h3 (by omega)⟩
 ·rintro r t next ⟨hr0,hr,hI⟩
  dsimp only
  refine Ret.mustN ?_ (Ret.ret ⟨by show r≤room; omega,fun _=>⟨by omega,forall_mem_iff.2 fun j hj=>hI j hj hj⟩⟩)
  omega
theorem sz_Int64S {N:Nat} (hN:4000000≤N) (x:List (Int)) (room:Int) (h:0≤room∧room≤1048576) (hf:((.slice (.int .i64)):Ty).fits x) (u:Unit):Ret (F_2 N (x,room,u)) (fun r=>r.1≤room∧(0≤r.1→x.length < 4000000)):=by
 have hm:=maxLen_eq
 unfold F_2
 have hl:=hf.1
 dsimp only
 rw [wrapI (n:=room - (x.length:Int)) (by omega) (by omega)]
 refine Ret.ifd ?_ ?_ <;> intro h1
 ·exact Ret.ret ⟨by show (-1:Int)≤room; omega,fun h=>absurd h (by decide)⟩
 ·exact Ret.ret ⟨by show room - (x.length:Int)≤room; omega,fun _=>by omega⟩
theorem sz_Table {N:Nat} (hN:4000000≤N) (x:DTable) (room:Int) (h:0≤room∧room≤1048576) (hf:(TTable:Ty).fits x) (u:Unit):Ret (F_3 N (x,room,u)) (fun r=>r.1≤room∧(0≤r.1→(x.1.length < 4000000)∧(x.2.1.length < 4000000)∧(x.2.2.1.length < 4000000))):=by
 have hm:=maxLen_eq
 unfold F_3
 dsimp only
 have hf0:=hf.1
 refine Ret.bind (sz_Int64S hN x.1 room ⟨by omega,by omega⟩ hf0 ()) ?_
 rintro ⟨r0,v0⟩ ⟨a0,b0⟩
 dsimp only at a0 b0 ⊢
 refine Ret.ifd ?_ ?_ <;> intro g0
 ·exact Ret.ret ⟨by show (-1:Int)≤room; omega,fun h=>absurd h (by decide)⟩
 have hf1:=hf.2.1
 refine Ret.bind (sz_Int64S hN x.2.1 r0 ⟨by omega,by omega⟩ hf1 ()) ?_
 rintro ⟨r1,v1⟩ ⟨a1,b1⟩
 dsimp only at a1 b1 ⊢
 refine Ret.ifd ?_ ?_ <;> intro g1
 ·exact Ret.ret ⟨by show (-1:Int)≤room; omega,fun h=>absurd h (by decide)⟩
 have hf2:=hf.2.2.1
 refine Ret.bind (sz_Int64S hN x.2.2.1 r1 ⟨by omega,by omega⟩ hf2 ()) ?_
 rintro ⟨r2,v2⟩ ⟨a2,b2⟩
 dsimp only at a2 b2 ⊢
 refine Ret.ifd ?_ ?_ <;> intro g2
 ·exact Ret.ret ⟨by show (-1:Int)≤room; omega,fun h=>absurd h (by decide)⟩
 exact Ret.ret ⟨by show r2≤room; omega,fun _=>⟨b0 (by omega),b1 (by omega),b2 (by omega)⟩⟩
theorem sz_TableS {N:Nat} (hN:4000000≤N) (x:List DTable) (room:Int) (h:0≤room∧room≤1048576) (hf:((.slice TTable):Ty).fits x) (u:Unit):Ret (F_4 N (x,room,u)) (fun r=>r.1≤room∧(0≤r.1→x.length < 4000000∧∀ e0 ∈ x,(e0.1.length < 4000000)∧(e0.2.1.length < 4000000)∧(e0.2.2.1.length < 4000000))):=by
 have hm:=maxLen_eq
 unfold F_4
 have hl:=hf.1
 dsimp only
 rw [wrapI (n:=room - (x.length:Int)) (by omega) (by omega)]
 refine Ret.ifd ?_ ?_ <;> intro h1
 ·exact Ret.ret ⟨by show (-1:Int)≤room; omega,fun h=>absurd h (by decide)⟩
 refine Ret.upM 0 x.length (fun i r _=>0≤r∧r≤room - (x.length:Int)∧∀ j,j < i→∀ h:j < x.length,(x[j].1.length < 4000000)∧(x[j].2.1.length < 4000000)∧(x[j].2.2.1.length < 4000000)) (by omega) (by omega) (by omega) ⟨by omega,by omega,upto_zero⟩ ?_ ?_
 ·rintro i r t next _ hi ⟨hr0,hr,hI⟩ hn
  have hfi:=hf.2 _ (List.getElem_mem hi)
  dsimp only
  refine Ret.must ?_ ?_
  ·omega
  refine Ret.atN hi (Ret.bind (sz_Table hN x[i] r ⟨hr0,by omega⟩ hfi ()) ?_)
  rintro ⟨r2,v⟩ ⟨h2,h3⟩
  dsimp only at h2 h3 ⊢
  refine Ret.ifd ?_ ?_ <;> intro h4
  ·exact Ret.ret ⟨by show (-1:Int)≤room; omega,fun h=>absurd h (by decide)⟩
  ·exact hn _ _ ⟨by omega,by omega,upto_succ hI fun _=>h3 (by omega)⟩
 ·rintro r t next ⟨hr0,hr,hI⟩
  dsimp only
  refine Ret.mustN ?_ (Ret.ret ⟨by show r≤room; omega,fun _=>⟨by omega,forall_mem_iff.2 fun j hj=>hI j hj hj⟩⟩)
  omega
theorem sz_Arc {N:Nat} (hN:4000000≤N) (x:DArc) (room:Int) (h:0≤room∧room≤1048576) (hf:(TArc:Ty).fits x) (u:Unit):Ret (F_5 N (x,room,u)) (fun r=>r.1≤room∧(0≤r.1→(x.2.2.2.2.1.length < 4000000∧∀ e0 ∈ x.2.2.2.2.1,(e0.1.length < 4000000)∧(e0.2.1.length < 4000000)∧(e0.2.2.1.length < 4000000))∧(x.2.2.2.2.2.1.length < 4000000∧∀ e0 ∈ x.2.2.2.2.2.1,(e0.1.length < 4000000)∧(e0.2.1.length < 4000000)∧(e0.2.2.1.length < 4000000)))):=by
 have hm:=maxLen_eq
 unfold F_5
 dsimp only
 have hf0:=hf.2.2.2.2.1
 refine Ret.bind (sz_TableS hN x.2.2.2.2.1 room ⟨by omega,by omega⟩ hf0 ()) ?_
 rintro ⟨r0,v0⟩ ⟨a0,b0⟩
 dsimp only at a0 b0 ⊢
 refine Ret.ifd ?_ ?_ <;> intro g0
 ·exact Ret.ret ⟨by show (-1:Int)≤room; omega,fun h=>absurd h (by decide)⟩
 have hf1:=hf.2.2.2.2.2.1
 refine Ret.bind (sz_TableS hN x.2.2.2.2.2.1 r0 ⟨by omega,by omega⟩ hf1 ()) ?_
 rintro ⟨r1,v1⟩ ⟨a1,b1⟩
 dsimp only at a1 b1 ⊢
 refine Ret.ifd ?_ ?_ <;> intro g1
 ·exact Ret.ret ⟨by show (-1:Int)≤room; omega,fun h=>absurd h (by decide)⟩
 exact Ret.ret ⟨by show r1≤room; omega,fun _=>⟨b0 (by omega),b1 (by omega)⟩⟩
theorem sz_ArcS {N:Nat} (hN:4000000≤N) (x:List DArc) (room:Int) (h:0≤room∧room≤1048576) (hf:((.slice TArc):Ty).fits x) (u:Unit):Ret (F_6 N (x,room,u)) (fun r=>r.1≤room∧(0≤r.1→x.length < 4000000∧∀ e0 ∈ x,(e0.2.2.2.2.1.length < 4000000∧∀ e1 ∈ e0.2.2.2.2.1,(e1.1.length < 4000000)∧(e1.2.1.length < 4000000)∧(e1.2.2.1.length < 4000000))∧(e0.2.2.2.2.2.1.length < 4000000∧∀ e1 ∈ e0.2.2.2.2.2.1,(e1.1.length < 4000000)∧(e1.2.1.length < 4000000)∧(e1.2.2.1.length < 4000000)))):=by
 have hm:=maxLen_eq
 unfold F_6
 have hl:=hf.1
 dsimp only
 rw [wrapI (n:=room - (x.length:Int)) (by omega) (by omega)]
 refine Ret.ifd ?_ ?_ <;> intro h1
 ·exact Ret.ret ⟨by show (-1:Int)≤room; omega,fun h=>absurd h (by decide)⟩
 refine Ret.upM 0 x.length (fun i r _=>0≤r∧r≤room - (x.length:Int)∧∀ j,j < i→∀ h:j < x.length,(x[j].2.2.2.2.1.length < 4000000∧∀ e0 ∈ x[j].2.2.2.2.1,(e0.1.length < 4000000)∧(e0.2.1.length < 4000000)∧(e0.2.2.1.length < 4000000))∧(x[j].2.2.2.2.2.1.length < 4000000∧∀ e0 ∈ x[j].2.2.2.2.2.1,(e0.1.length < 4000000)∧(e0.2.1.length < 4000000)∧(e0.2.2.1.length < 4000000))) (by omega) (by omega) (by omega) ⟨by omega,by omega,upto_zero⟩ ?_ ?_
 ·rintro i r t next _ hi ⟨hr0,hr,hI⟩ hn
  have hfi:=hf.2 _ (List.getElem_mem hi)
  dsimp only
  refine Ret.must ?_ ?_
  ·omega
  refine Ret.atN hi (Ret.bind (sz_Arc hN x[i] r ⟨hr0,by omega⟩ hfi ()) ?_)
  rintro ⟨r2,v⟩ ⟨h2,h3⟩
  dsimp only at h2 h3 ⊢
  refine Ret.ifd ?_ ?_ <;> intro h4
  ·exact Ret.ret ⟨by show (-1:Int)≤room; omega,fun h=>absurd h (by decide)⟩
  ·exact hn _ _ ⟨by omega,by omega,upto_succ hI fun _=>h3 (by omega)⟩
 ·rintro r t next ⟨hr0,hr,hI⟩
  dsimp only
  refine Ret.mustN ?_ (Ret.ret ⟨by show r≤room; omega,fun _=>⟨by omega,forall_mem_iff.2 fun j hj=>hI j hj hj⟩⟩)
  omega
theorem sz_Cell {N:Nat} (hN:4000000≤N) (x:DCell) (room:Int) (h:0≤room∧room≤1048576) (hf:(TCell:Ty).fits x) (u:Unit):Ret (F_7 N (x,room,u)) (fun r=>r.1≤room∧(0≤r.1→(x.1.size < 4000000)∧(x.2.2.1.length < 4000000∧∀ e0 ∈ x.2.2.1,(e0.1.size < 4000000))∧(x.2.2.2.1.length < 4000000∧∀ e0 ∈ x.2.2.2.1,(e0.2.2.2.2.1.length < 4000000∧∀ e1 ∈ e0.2.2.2.2.1,(e1.1.length < 4000000)∧(e1.2.1.length < 4000000)∧(e1.2.2.1.length < 4000000))∧(e0.2.2.2.2.2.1.length < 4000000∧∀ e1 ∈ e0.2.2.2.2.2.1,(e1.1.length < 4000000)∧(e1.2.1.length < 4000000)∧(e1.2.2.1.length < 4000000)))∧(x.2.2.2.2.1.length < 4000000))):=by
 have hm:=maxLen_eq
 unfold F_7
 dsimp only
 have hf0:=hf.1
 rw [wrapI (n:=room - (x.1.size:Int)) (by omega) (by omega)]
 refine Ret.ifd ?_ ?_ <;> intro g0
 ·exact Ret.ret ⟨by show (-1:Int)≤room; omega,fun h=>absurd h (by decide)⟩
 have hf1:=hf.2.2.1
 refine Ret.bind (sz_PinS hN x.2.2.1 (room - (x.1.size:Int)) ⟨by omega,by omega⟩ hf1 ()) ?_
 rintro ⟨r1,v1⟩ ⟨a1,b1⟩
 dsimp only at a1 b1 ⊢
 refine Ret.ifd ?_ ?_ <;> intro g1
 ·exact Ret.ret ⟨by show (-1:Int)≤room; omega,fun h=>absurd h (by decide)⟩
 have hf2:=hf.2.2.2.1
 refine Ret.bind (sz_ArcS hN x.2.2.2.1 r1 ⟨by omega,by omega⟩ hf2 ()) ?_
 rintro ⟨r2,v2⟩ ⟨a2,b2⟩
 dsimp only at a2 b2 ⊢
 refine Ret.ifd ?_ ?_ <;> intro g2
 ·exact Ret.ret ⟨by show (-1:Int)≤room; omega,fun h=>absurd h (by decide)⟩
 have hf3:=hf.2.2.2.2.1
 refine Ret.bind (sz_Int64S hN x.2.2.2.2.1 r2 ⟨by omega,by omega⟩ hf3 ()) ?_
 rintro ⟨r3,v3⟩ ⟨a3,b3⟩
 dsimp only at a3 b3 ⊢
 refine Ret.ifd ?_ ?_ <;> intro g3
 ·exact Ret.ret ⟨by show (-1:Int)≤room; omega,fun h=>absurd h (by decide)⟩
 exact Ret.ret ⟨by show r3≤room; omega,fun _=>⟨(by omega),b1 (by omega),b2 (by omega),b3 (by omega)⟩⟩
theorem sz_CellS {N:Nat} (hN:4000000≤N) (x:List DCell) (room:Int) (h:0≤room∧room≤1048576) (hf:((.slice TCell):Ty).fits x) (u:Unit):Ret (F_8 N (x,room,u)) (fun r=>r.1≤room∧(0≤r.1→x.length < 4000000∧∀ e0 ∈ x,(e0.1.size < 4000000)∧(e0.2.2.1.length < 4000000∧∀ e1 ∈ e0.2.2.1,(e1.1.size < 4000000))∧(e0.2.2.2.1.length < 4000000∧∀ e1 ∈ e0.2.2.2.1,(e1.2.2.2.2.1.length < 4000000∧∀ e2 ∈ e1.2.2.2.2.1,(e2.1.length < 4000000)∧(e2.2.1.length < 4000000)∧(e2.2.2.1.length < 4000000))∧(e1.2.2.2.2.2.1.length < 4000000∧∀ e2 ∈ e1.2.2.2.2.2.1,(e2.1.length < 4000000)∧(e2.2.1.length < 4000000)∧(e2.2.2.1.length < 4000000)))∧(e0.2.2.2.2.1.length < 4000000))):=by
 have hm:=maxLen_eq
 unfold F_8
 have hl:=hf.1
 dsimp only
 rw [wrapI (n:=room - (x.length:Int)) (by omega) (by omega)]
 refine Ret.ifd ?_ ?_ <;> intro h1
 ·exact Ret.ret ⟨by show (-1:Int)≤room; omega,fun h=>absurd h (by decide)⟩
 refine Ret.upM 0 x.length (fun i r _=>0≤r∧r≤room - (x.length:Int)∧∀ j,j < i→∀ h:j < x.length,(x[j].1.size < 4000000)∧(x[j].2.2.1.length < 4000000∧∀ e0 ∈ x[j].2.2.1,(e0.1.size < 4000000))∧(x[j].2.2.2.1.length < 4000000∧∀ e0 ∈ x[j].2.2.2.1,(e0.2.2.2.2.1.length < 4000000∧∀ e1 ∈ e0.2.2.2.2.1,(e1.1.length < 4000000)∧(e1.2.1.length < 4000000)∧(e1.2.2.1.length < 4000000))∧(e0.2.2.2.2.2.1.length < 4000000∧∀ e1 ∈ e0.2.2.2.2.2.1,(e1.1.length < 4000000)∧(e1.2.1.length < 4000000)∧(e1.2.2.1.length < 4000000)))∧(x[j].2.2.2.2.1.length < 4000000)) (by omega) (by omega) (by omega) ⟨by omega,by omega,upto_zero⟩ ?_ ?_
 ·rintro i r t next _ hi ⟨hr0,hr,hI⟩ hn
  have hfi:=hf.2 _ (List.getElem_mem hi)
  dsimp only
  refine Ret.must ?_ ?_
  ·omega
  refine Ret.atN hi (Ret.bind (sz_Cell hN x[i] r ⟨hr0,by omega⟩ hfi ()) ?_)
  rintro ⟨r2,v⟩ ⟨h2,h3⟩
  dsimp only at h2 h3 ⊢
  refine Ret.ifd ?_ ?_ <;> intro h4
  ·exact Ret.ret ⟨by show (-1:Int)≤room; omega,fun h=>absurd h (by decide)⟩
  ·exact hn _ _ ⟨by omega,by omega,upto_succ hI fun _=>h3 (by omega)⟩
 ·rintro r t next ⟨hr0,hr,hI⟩
  dsimp only
  refine Ret.mustN ?_ (Ret.ret ⟨by show r≤room; omega,fun _=>⟨by omega,forall_mem_iff.2 fun j hj=>hI j hj hj⟩⟩)
  omega
theorem sz_Library {N:Nat} (hN:4000000≤N) (x:DLibrary) (room:Int) (h:0≤room∧room≤1048576) (hf:(TLibrary:Ty).fits x) (u:Unit):Ret (F_9 N (x,room,u)) (fun r=>r.1≤room∧(0≤r.1→(x.1.length < 4000000∧∀ e0 ∈ x.1,(e0.1.size < 4000000)∧(e0.2.2.1.length < 4000000∧∀ e1 ∈ e0.2.2.1,(e1.1.size < 4000000))∧(e0.2.2.2.1.length < 4000000∧∀ e1 ∈ e0.2.2.2.1,(e1.2.2.2.2.1.length < 4000000∧∀ e2 ∈ e1.2.2.2.2.1,(e2.1.length < 4000000)∧(e2.2.1.length < 4000000)∧(e2.2.2.1.length < 4000000))∧(e1.2.2.2.2.2.1.length < 4000000∧∀ e2 ∈ e1.2.2.2.2.2.1,(e2.1.length < 4000000)∧(e2.2.1.length < 4000000)∧(e2.2.2.1.length < 4000000)))∧(e0.2.2.2.2.1.length < 4000000)))):=by
 have hm:=maxLen_eq
 unfold F_9
 dsimp only
 have hf0:=hf.1
 refine Ret.bind (sz_CellS hN x.1 room ⟨by omega,by omega⟩ hf0 ()) ?_
 rintro ⟨r0,v0⟩ ⟨a0,b0⟩
 dsimp only at a0 b0 ⊢
 refine Ret.ifd ?_ ?_ <;> intro g0
 ·exact Ret.ret ⟨by show (-1:Int)≤room; omega,fun h=>absurd h (by decide)⟩
 exact Ret.ret ⟨by show r0≤room; omega,fun _=>b0 (by omega)⟩
theorem sz_Instance {N:Nat} (hN:4000000≤N) (x:DInstance) (room:Int) (h:0≤room∧room≤1048576) (hf:(TInstance:Ty).fits x) (u:Unit):Ret (F_10 N (x,room,u)) (fun r=>r.1≤room∧(0≤r.1→(x.1.size < 4000000)∧(x.2.2.1.length < 4000000))):=by
 have hm:=maxLen_eq
 unfold F_10
 dsimp only
 have hf0:=hf.1
 rw [wrapI (n:=room - (x.1.size:Int)) (by omega) (by omega)]
 refine Ret.ifd ?_ ?_ <;> intro g0
 ·exact Ret.ret ⟨by show (-1:Int)≤room; omega,fun h=>absurd h (by decide)⟩
 have hf1:=hf.2.2.1
 refine Ret.bind (sz_Int64S hN x.2.2.1 (room - (x.1.size:Int)) ⟨by omega,by omega⟩ hf1 ()) ?_
 rintro ⟨r1,v1⟩ ⟨a1,b1⟩
 dsimp only at a1 b1 ⊢
 refine Ret.ifd ?_ ?_ <;> intro g1
 ·exact Ret.ret ⟨by show (-1:Int)≤room; omega,fun h=>absurd h (by decide)⟩
 exact Ret.ret ⟨by show r1≤room; omega,fun _=>⟨(by omega),b1 (by omega)⟩⟩
theorem sz_InstanceS {N:Nat} (hN:4000000≤N) (x:List DInstance) (room:Int) (h:0≤room∧room≤1048576) (hf:((.slice TInstance):Ty).fits x) (u:Unit):Ret (F_11 N (x,room,u)) (fun r=>r.1≤room∧(0≤r.1→x.length < 4000000∧∀ e0 ∈ x,(e0.1.size < 4000000)∧(e0.2.2.1.length < 4000000))):=by
 have hm:=maxLen_eq
 unfold F_11
 have hl:=hf.1
 dsimp only
 rw [wrapI (n:=room - (x.length:Int)) (by omega) (by omega)]
 refine Ret.ifd ?_ ?_ <;> intro h1
 ·exact Ret.ret ⟨by show (-1:Int)≤room; omega,fun h=>absurd h (by decide)⟩
 refine Ret.upM 0 x.length (fun i r _=>0≤r∧r≤room - (x.length:Int)∧∀ j,j < i→∀ h:j < x.length,(x[j].1.size < 4000000)∧(x[j].2.2.1.length < 4000000)) (by omega) (by omega) (by omega) ⟨by omega,by omega,upto_zero⟩ ?_ ?_
 ·rintro i r t next _ hi ⟨hr0,hr,hI⟩ hn
  have hfi:=hf.2 _ (List.getElem_mem hi)
  dsimp only
  refine Ret.must ?_ ?_
  ·omega
  refine Ret.atN hi (Ret.bind (sz_Instance hN x[i] r ⟨hr0,by omega⟩ hfi ()) ?_)
  rintro ⟨r2,v⟩ ⟨h2,h3⟩
  dsimp only at h2 h3 ⊢
  refine Ret.ifd ?_ ?_ <;> intro h4
  ·exact Ret.ret ⟨by show (-1:Int)≤room; omega,fun h=>absurd h (by decide)⟩
  ·exact hn _ _ ⟨by omega,by omega,upto_succ hI fun _=>h3 (by omega)⟩
 ·rintro r t next ⟨hr0,hr,hI⟩
  dsimp only
  refine Ret.mustN ?_ (Ret.ret ⟨by show r≤room; omega,fun _=>⟨by omega,forall_mem_iff.2 fun j hj=>hI j hj hj⟩⟩)
  omega
theorem sz_StringS {N:Nat} (hN:4000000≤N) (x:List (ByteArray)) (room:Int) (h:0≤room∧room≤1048576) (hf:((.slice (.str)):Ty).fits x) (u:Unit):Ret (F_12 N (x,room,u)) (fun r=>r.1≤room∧(0≤r.1→x.length < 4000000∧∀ e0 ∈ x,e0.size < 4000000)):=by
 have hm:=maxLen_eq
 unfold F_12
 have hl:=hf.1
 dsimp only
 rw [wrapI (n:=room - (x.length:Int)) (by omega) (by omega)]
 refine Ret.ifd ?_ ?_ <;> intro h1
 ·exact Ret.ret ⟨by show (-1:Int)≤room; omega,fun h=>absurd h (by decide)⟩
 refine Ret.upM 0 x.length (fun i r _=>0≤r∧r≤room - (x.length:Int)∧∀ j,j < i→∀ h:j < x.length,x[j].size < 4000000) (by omega) (by omega) (by omega) ⟨by omega,by omega,upto_zero⟩ ?_ ?_
 ·rintro i r t next _ hi ⟨hr0,hr,hI⟩ hn
  have hfi:=hf.2 _ (List.getElem_mem hi)
  dsimp only
  refine Ret.must ?_ ?_
  ·omega
  refine Ret.atN hi ?_
  have hfi:x[i].size≤maxLen:=hfi
  rw [wrapI (n:=r - (x[i].size:Int)) (by omega) (by omega)]
  refine Ret.ifd ?_ ?_ <;> intro h2
  ·exact Ret.ret ⟨by show (-1:Int)≤room; omega,fun h=>absurd h (by decide)⟩
  ·exact hn _ _ ⟨by omega,by omega,upto_succ hI fun _=>by omega⟩
 ·rintro r t next ⟨hr0,hr,hI⟩
  dsimp only
  refine Ret.mustN ?_ (Ret.ret ⟨by show r≤room; omega,fun _=>⟨by omega,forall_mem_iff.2 fun j hj=>hI j hj hj⟩⟩)
  omega
theorem sz_Port {N:Nat} (hN:4000000≤N) (x:DPort) (room:Int) (h:0≤room∧room≤1048576) (hf:(TPort:Ty).fits x) (u:Unit):Ret (F_13 N (x,room,u)) (fun r=>r.1≤room∧(0≤r.1→(x.1.size < 4000000))):=by
 have hm:=maxLen_eq
 unfold F_13
 dsimp only
 have hf0:=hf.1
 rw [wrapI (n:=room - (x.1.size:Int)) (by omega) (by omega)]
 refine Ret.ifd ?_ ?_ <;> intro g0
 ·exact Ret.ret ⟨by show (-1:Int)≤room; omega,fun h=>absurd h (by decide)⟩
 exact Ret.ret ⟨by show (room - (x.1.size:Int))≤room; omega,fun _=>(by omega)⟩
theorem sz_PortS {N:Nat} (hN:4000000≤N) (x:List DPort) (room:Int) (h:0≤room∧room≤1048576) (hf:((.slice TPort):Ty).fits x) (u:Unit):Ret (F_14 N (x,room,u)) (fun r=>r.1≤room∧(0≤r.1→x.length < 4000000∧∀ e0 ∈ x,(e0.1.size < 4000000))):=by
 have hm:=maxLen_eq
 unfold F_14
 have hl:=hf.1
 dsimp only
 rw [wrapI (n:=room - (x.length:Int)) (by omega) (by omega)]
 refine Ret.ifd ?_ ?_ <;> intro h1
 ·exact Ret.ret ⟨by show (-1:Int)≤room; omega,fun h=>absurd h (by decide)⟩
 refine Ret.upM 0 x.length (fun i r _=>0≤r∧r≤room - (x.length:Int)∧∀ j,j < i→∀ h:j < x.length,(x[j].1.size < 4000000)) (by omega) (by omega) (by omega) ⟨by omega,by omega,upto_zero⟩ ?_ ?_
 ·rintro i r t next _ hi ⟨hr0,hr,hI⟩ hn
  have hfi:=hf.2 _ (List.getElem_mem hi)
  dsimp only
  refine Ret.must ?_ ?_
  ·omega
  refine Ret.atN hi (Ret.bind (sz_Port hN x[i] r ⟨hr0,by omega⟩ hfi ()) ?_)
  rintro ⟨r2,v⟩ ⟨h2,h3⟩
  dsimp only at h2 h3 ⊢
  refine Ret.ifd ?_ ?_ <;> intro h4
  ·exact Ret.ret ⟨by show (-1:Int)≤room; omega,fun h=>absurd h (by decide)⟩
  ·exact hn _ _ ⟨by omega,by omega,upto_succ hI fun _=>h3 (by omega)⟩
 ·rintro r t next ⟨hr0,hr,hI⟩
  dsimp only
  refine Ret.mustN ?_ (Ret.ret ⟨by show r≤room; omega,fun _=>⟨by omega,forall_mem_iff.2 fun j hj=>hI j hj hj⟩⟩)
  omega
theorem sz_Design {N:Nat} (hN:4000000≤N) (x:DDesign) (room:Int) (h:0≤room∧room≤1048576) (hf:(TDesign:Ty).fits x) (u:Unit):Ret (F_15 N (x,room,u)) (fun r=>r.1≤room∧(0≤r.1→(x.1.length < 4000000∧∀ e0 ∈ x.1,(e0.1.size < 4000000)∧(e0.2.2.1.length < 4000000))∧(x.2.1.length < 4000000∧∀ e0 ∈ x.2.1,e0.size < 4000000)∧(x.2.2.1.length < 4000000∧∀ e0 ∈ x.2.2.1,(e0.1.size < 4000000)))):=by
 have hm:=maxLen_eq
 unfold F_15
 dsimp only
 have hf0:=hf.1
 refine Ret.bind (sz_InstanceS hN x.1 room ⟨by omega,by omega⟩ hf0 ()) ?_
 rintro ⟨r0,v0⟩ ⟨a0,b0⟩
 dsimp only at a0 b0 ⊢
 refine Ret.ifd ?_ ?_ <;> intro g0
 ·exact Ret.ret ⟨by show (-1:Int)≤room; omega,fun h=>absurd h (by decide)⟩
 have hf1:=hf.2.1
 refine Ret.bind (sz_StringS hN x.2.1 r0 ⟨by omega,by omega⟩ hf1 ()) ?_
 rintro ⟨r1,v1⟩ ⟨a1,b1⟩
 dsimp only at a1 b1 ⊢
 refine Ret.ifd ?_ ?_ <;> intro g1
 ·exact Ret.ret ⟨by show (-1:Int)≤room; omega,fun h=>absurd h (by decide)⟩
 have hf2:=hf.2.2.1
 refine Ret.bind (sz_PortS hN x.2.2.1 r1 ⟨by omega,by omega⟩ hf2 ()) ?_
 rintro ⟨r2,v2⟩ ⟨a2,b2⟩
 dsimp only at a2 b2 ⊢
 refine Ret.ifd ?_ ?_ <;> intro g2
 ·exact Ret.ret ⟨by show (-1:Int)≤room; omega,fun h=>absurd h (by decide)⟩
 exact Ret.ret ⟨by show r2≤room; omega,fun _=>⟨b0 (by omega),b1 (by omega),b2 (by omega)⟩⟩
theorem sz_Wire {N:Nat} (hN:4000000≤N) (x:DWire) (room:Int) (h:0≤room∧room≤1048576) (hf:(TWire:Ty).fits x) (u:Unit):Ret (F_16 N (x,room,u)) (fun r=>r.1≤room∧(0≤r.1→(x.1.length < 4000000)∧(x.2.1.length < 4000000)∧(x.2.2.1.length < 4000000)∧(x.2.2.2.1.length < 4000000))):=by
 have hm:=maxLen_eq
 unfold F_16
 dsimp only
 have hf0:=hf.1
 refine Ret.bind (sz_Int64S hN x.1 room ⟨by omega,by omega⟩ hf0 ()) ?_
 rintro ⟨r0,v0⟩ ⟨a0,b0⟩
 dsimp only at a0 b0 ⊢
 refine Ret.ifd ?_ ?_ <;> intro g0
 ·exact Ret.ret ⟨by show (-1:Int)≤room; omega,fun h=>absurd h (by decide)⟩
 have hf1:=hf.2.1
 refine Ret.bind (sz_Int64S hN x.2.1 r0 ⟨by omega,by omega⟩ hf1 ()) ?_
 rintro ⟨r1,v1⟩ ⟨a1,b1⟩
 dsimp only at a1 b1 ⊢
 refine Ret.ifd ?_ ?_ <;> intro g1
 ·exact Ret.ret ⟨by show (-1:Int)≤room; omega,fun h=>absurd h (by decide)⟩
 have hf2:=hf.2.2.1
 refine Ret.bind (sz_Int64S hN x.2.2.1 r1 ⟨by omega,by omega⟩ hf2 ()) ?_
 rintro ⟨r2,v2⟩ ⟨a2,b2⟩
 dsimp only at a2 b2 ⊢
 refine Ret.ifd ?_ ?_ <;> intro g2
 ·exact Ret.ret ⟨by show (-1:Int)≤room; omega,fun h=>absurd h (by decide)⟩
 have hf3:=hf.2.2.2.1
 refine Ret.bind (sz_Int64S hN x.2.2.2.1 r2 ⟨by omega,by omega⟩ hf3 ()) ?_
 rintro ⟨r3,v3⟩ ⟨a3,b3⟩
 dsimp only at a3 b3 ⊢
 refine Ret.ifd ?_ ?_ <;> intro g3
 ·exact Ret.ret ⟨by show (-1:Int)≤room; omega,fun h=>absurd h (by decide)⟩
 exact Ret.ret ⟨by show r3≤room; omega,fun _=>⟨b0 (by omega),b1 (by omega),b2 (by omega),b3 (by omega)⟩⟩
theorem sz_WireS {N:Nat} (hN:4000000≤N) (x:List DWire) (room:Int) (h:0≤room∧room≤1048576) (hf:((.slice TWire):Ty).fits x) (u:Unit):Ret (F_17 N (x,room,u)) (fun r=>r.1≤room∧(0≤r.1→x.length < 4000000∧∀ e0 ∈ x,(e0.1.length < 4000000)∧(e0.2.1.length < 4000000)∧(e0.2.2.1.length < 4000000)∧(e0.2.2.2.1.length < 4000000))):=by
 have hm:=maxLen_eq
 unfold F_17
 have hl:=hf.1
 dsimp only
 rw [wrapI (n:=room - (x.length:Int)) (by omega) (by omega)]
 refine Ret.ifd ?_ ?_ <;> intro h1
 ·exact Ret.ret ⟨by show (-1:Int)≤room; omega,fun h=>absurd h (by decide)⟩
 refine Ret.upM 0 x.length (fun i r _=>0≤r∧r≤room - (x.length:Int)∧∀ j,j < i→∀ h:j < x.length,(x[j].1.length < 4000000)∧(x[j].2.1.length < 4000000)∧(x[j].2.2.1.length < 4000000)∧(x[j].2.2.2.1.length < 4000000)) (by omega) (by omega) (by omega) ⟨by omega,by omega,upto_zero⟩ ?_ ?_
 ·rintro i r t next _ hi ⟨hr0,hr,hI⟩ hn
  have hfi:=hf.2 _ (List.getElem_mem hi)
  dsimp only
  refine Ret.must ?_ ?_
  ·omega
  refine Ret.atN hi (Ret.bind (sz_Wire hN x[i] r ⟨hr0,by omega⟩ hfi ()) ?_)
  rintro ⟨r2,v⟩ ⟨h2,h3⟩
  dsimp only at h2 h3 ⊢
  refine Ret.ifd ?_ ?_ <;> intro h4
  ·exact Ret.ret ⟨by show (-1:Int)≤room; omega,fun h=>absurd h (by decide)⟩
  ·exact hn _ _ ⟨by omega,by omega,upto_succ hI fun _=>h3 (by omega)⟩
 ·rintro r t next ⟨hr0,hr,hI⟩
  dsimp only
  refine Ret.mustN ?_ (Ret.ret ⟨by show r≤room; omega,fun _=>⟨by omega,forall_mem_iff.2 fun j hj=>hI j hj hj⟩⟩)
  omega
theorem sz_Block {N:Nat} (hN:4000000≤N) (x:DBlock) (room:Int) (h:0≤room∧room≤1048576) (hf:(TBlock:Ty).fits x) (u:Unit):Ret (F_18 N (x,room,u)) (fun r=>r.1≤room∧(0≤r.1→((x.1.1.length < 4000000∧∀ e0 ∈ x.1.1,(e0.1.size < 4000000)∧(e0.2.2.1.length < 4000000∧∀ e1 ∈ e0.2.2.1,(e1.1.size < 4000000))∧(e0.2.2.2.1.length < 4000000∧∀ e1 ∈ e0.2.2.2.1,(e1.2.2.2.2.1.length < 4000000∧∀ e2 ∈ e1.2.2.2.2.1,(e2.1.length < 4000000)∧(e2.2.1.length < 4000000)∧(e2.2.2.1.length < 4000000))∧(e1.2.2.2.2.2.1.length < 4000000∧∀ e2 ∈ e1.2.2.2.2.2.1,(e2.1.length < 4000000)∧(e2.2.1.length < 4000000)∧(e2.2.2.1.length < 4000000)))∧(e0.2.2.2.2.1.length < 4000000)))∧((x.2.1.1.length < 4000000∧∀ e0 ∈ x.2.1.1,(e0.1.size < 4000000)∧(e0.2.2.1.length < 4000000))∧(x.2.1.2.1.length < 4000000∧∀ e0 ∈ x.2.1.2.1,e0.size < 4000000)∧(x.2.1.2.2.1.length < 4000000∧∀ e0 ∈ x.2.1.2.2.1,(e0.1.size < 4000000)))∧(x.2.2.1.length < 4000000∧∀ e0 ∈ x.2.2.1,(e0.1.length < 4000000)∧(e0.2.1.length < 4000000)∧(e0.2.2.1.length < 4000000)∧(e0.2.2.2.1.length < 4000000)))):=by
 have hm:=maxLen_eq
 unfold F_18
 dsimp only
 have hf0:=hf.1
 refine Ret.bind (sz_Library hN x.1 room ⟨by omega,by omega⟩ hf0 ()) ?_
 rintro ⟨r0,v0⟩ ⟨a0,b0⟩
 dsimp only at a0 b0 ⊢
 refine Ret.ifd ?_ ?_ <;> intro g0
 ·exact Ret.ret ⟨by show (-1:Int)≤room; omega,fun h=>absurd h (by decide)⟩
 have hf1:=hf.2.1
 refine Ret.bind (sz_Design hN x.2.1 r0 ⟨by omega,by omega⟩ hf1 ()) ?_
 rintro ⟨r1,v1⟩ ⟨a1,b1⟩
 dsimp only at a1 b1 ⊢
 refine Ret.ifd ?_ ?_ <;> intro g1
 ·exact Ret.ret ⟨by show (-1:Int)≤room; omega,fun h=>absurd h (by decide)⟩
 have hf2:=hf.2.2.1
 refine Ret.bind (sz_WireS hN x.2.2.1 r1 ⟨by omega,by omega⟩ hf2 ()) ?_
 rintro ⟨r2,v2⟩ ⟨a2,b2⟩
 dsimp only at a2 b2 ⊢
 refine Ret.ifd ?_ ?_ <;> intro g2
 ·exact Ret.ret ⟨by show (-1:Int)≤room; omega,fun h=>absurd h (by decide)⟩
 exact Ret.ret ⟨by show r2≤room; omega,fun _=>⟨b0 (by omega),b1 (by omega),b2 (by omega)⟩⟩
theorem sz_Corner {N:Nat} (hN:4000000≤N) (x:DCorner) (room:Int) (h:0≤room∧room≤1048576) (hf:(TCorner:Ty).fits x) (u:Unit):Ret (F_19 N (x,room,u)) (fun r=>r.1≤room∧(0≤r.1→(x.1.size < 4000000))):=by
 have hm:=maxLen_eq
 unfold F_19
 dsimp only
 have hf0:=hf.1
 rw [wrapI (n:=room - (x.1.size:Int)) (by omega) (by omega)]
 refine Ret.ifd ?_ ?_ <;> intro g0
 ·exact Ret.ret ⟨by show (-1:Int)≤room; omega,fun h=>absurd h (by decide)⟩
 exact Ret.ret ⟨by show (room - (x.1.size:Int))≤room; omega,fun _=>(by omega)⟩
theorem sz_SourceS {N:Nat} (hN:4000000≤N) (x:List DSource) (room:Int) (h:0≤room∧room≤1048576) (hf:((.slice TSource):Ty).fits x) (u:Unit):Ret (F_20 N (x,room,u)) (fun r=>r.1≤room∧(0≤r.1→x.length < 4000000)):=by
 have hm:=maxLen_eq
 unfold F_20
 have hl:=hf.1
 dsimp only
 rw [wrapI (n:=room - (x.length:Int)) (by omega) (by omega)]
 refine Ret.ifd ?_ ?_ <;> intro h1
 ·exact Ret.ret ⟨by show (-1:Int)≤room; omega,fun h=>absurd h (by decide)⟩
 ·exact Ret.ret ⟨by show room - (x.length:Int)≤room; omega,fun _=>by omega⟩
theorem sz_Job {N:Nat} (hN:4000000≤N) (x:DJob) (room:Int) (h:0≤room∧room≤1048576) (hf:(TJob:Ty).fits x) (u:Unit):Ret (F_21 N (x,room,u)) (fun r=>r.1≤room∧(0≤r.1→(((x.1.1.1.length < 4000000∧∀ e0 ∈ x.1.1.1,(e0.1.size < 4000000)∧(e0.2.2.1.length < 4000000∧∀ e1 ∈ e0.2.2.1,(e1.1.size < 4000000))∧(e0.2.2.2.1.length < 4000000∧∀ e1 ∈ e0.2.2.2.1,(e1.2.2.2.2.1.length < 4000000∧∀ e2 ∈ e1.2.2.2.2.1,(e2.1.length < 4000000)∧(e2.2.1.length < 4000000)∧(e2.2.2.1.length < 4000000))∧(e1.2.2.2.2.2.1.length < 4000000∧∀ e2 ∈ e1.2.2.2.2.2.1,(e2.1.length < 4000000)∧(e2.2.1.length < 4000000)∧(e2.2.2.1.length < 4000000)))∧(e0.2.2.2.2.1.length < 4000000)))∧((x.1.2.1.1.length < 4000000∧∀ e0 ∈ x.1.2.1.1,(e0.1.size < 4000000)∧(e0.2.2.1.length < 4000000))∧(x.1.2.1.2.1.length < 4000000∧∀ e0 ∈ x.1.2.1.2.1,e0.size < 4000000)∧(x.1.2.1.2.2.1.length < 4000000∧∀ e0 ∈ x.1.2.1.2.2.1,(e0.1.size < 4000000)))∧(x.1.2.2.1.length < 4000000∧∀ e0 ∈ x.1.2.2.1,(e0.1.length < 4000000)∧(e0.2.1.length < 4000000)∧(e0.2.2.1.length < 4000000)∧(e0.2.2.2.1.length < 4000000)))∧((x.2.1.1.size < 4000000))∧(x.2.2.1.length < 4000000)∧(x.2.2.2.1.length < 4000000))):=by
 have hm:=maxLen_eq
 unfold F_21
 dsimp only
 have hf0:=hf.1
 refine Ret.bind (sz_Block hN x.1 room ⟨by omega,by omega⟩ hf0 ()) ?_
 rintro ⟨r0,v0⟩ ⟨a0,b0⟩
 dsimp only at a0 b0 ⊢
 refine Ret.ifd ?_ ?_ <;> intro g0
 ·exact Ret.ret ⟨by show (-1:Int)≤room; omega,fun h=>absurd h (by decide)⟩
 have hf1:=hf.2.1
 refine Ret.bind (sz_Corner hN x.2.1 r0 ⟨by omega,by omega⟩ hf1 ()) ?_
 rintro ⟨r1,v1⟩ ⟨a1,b1⟩
 dsimp only at a1 b1 ⊢
 refine Ret.ifd ?_ ?_ <;> intro g1
 ·exact Ret.ret ⟨by show (-1:Int)≤room; omega,fun h=>absurd h (by decide)⟩
 have hf2:=hf.2.2.1
 refine Ret.bind (sz_Int64S hN x.2.2.1 r1 ⟨by omega,by omega⟩ hf2 ()) ?_
 rintro ⟨r2,v2⟩ ⟨a2,b2⟩
 dsimp only at a2 b2 ⊢
 refine Ret.ifd ?_ ?_ <;> intro g2
 ·exact Ret.ret ⟨by show (-1:Int)≤room; omega,fun h=>absurd h (by decide)⟩
 have hf3:=hf.2.2.2.1
 refine Ret.bind (sz_SourceS hN x.2.2.2.1 r2 ⟨by omega,by omega⟩ hf3 ()) ?_
 rintro ⟨r3,v3⟩ ⟨a3,b3⟩
 dsimp only at a3 b3 ⊢
 refine Ret.ifd ?_ ?_ <;> intro g3
 ·exact Ret.ret ⟨by show (-1:Int)≤room; omega,fun h=>absurd h (by decide)⟩
 exact Ret.ret ⟨by show r3≤room; omega,fun _=>⟨b0 (by omega),b1 (by omega),b2 (by omega),b3 (by omega)⟩⟩
theorem to_Pin {N:Nat} (hN:4000000≤N) (x:DPin) (hs:(x.1.size < 4000000)) (u:Unit):F_22 N (x,u)=some (x,()):=by
 unfold F_22
 rfl
theorem to_PinS {N:Nat} (hN:4000000≤N) (x:List DPin) (hs:x.length < 4000000∧∀ e0 ∈ x,(e0.1.size < 4000000)) (u:Unit):F_23 N (x,u)=some (x,()):=by
 unfold F_23
 have hl:=hs.1
 refine (copy_guard hl).trans ?_
 exact copyBy_eq _ (fun e=>F_22 N (e,())) (fun e he=>to_Pin hN e (hs.2 e he) ()) hl hN
theorem to_Int64S {N:Nat} (hN:4000000≤N) (x:List (Int)) (hs:x.length < 4000000) (u:Unit):F_24 N (x,u)=some (x,()):=by
 unfold F_24
 have hl:=hs
 refine (copy_guard hl).trans ?_
 exact copy_eq _ hl hN
theorem to_Table {N:Nat} (hN:4000000≤N) (x:DTable) (hs:(x.1.length < 4000000)∧(x.2.1.length < 4000000)∧(x.2.2.1.length < 4000000)) (u:Unit):F_25 N (x,u)=some (x,()):=by
 unfold F_25
 refine (obind_eq' (to_Int64S hN x.1 (hs.1) ())).trans ?_
 refine (obind_eq' (to_Int64S hN x.2.1 (hs.2.1) ())).trans ?_
 refine (obind_eq' (to_Int64S hN x.2.2.1 (hs.2.2) ())).trans ?_
 rfl
theorem to_TableS {N:Nat} (hN:4000000≤N) (x:List DTable) (hs:x.length < 4000000∧∀ e0 ∈ x,(e0.1.length < 4000000)∧(e0.2.1.length < 4000000)∧(e0.2.2.1.length < 4000000)) (u:Unit):F_26 N (x,u)=some (x,()):=by
 unfold F_26
 have hl:=hs.1
 refine (copy_guard hl).trans ?_
 exact copyBy_eq _ (fun e=>F_25 N (e,())) (fun e he=>to_Table hN e (hs.2 e he) ()) hl hN
theorem to_Arc {N:Nat} (hN:4000000≤N) (x:DArc) (hs:(x.2.2.2.2.1.length < 4000000∧∀ e0 ∈ x.2.2.2.2.1,(e0.1.length < 4000000)∧(e0.2.1.length < 4000000)∧(e0.2.2.1.length < 4000000))∧(x.2.2.2.2.2.1.length < 4000000∧∀ e0 ∈ x.2.2.2.2.2.1,(e0.1.length < 4000000)∧(e0.2.1.length < 4000000)∧(e0.2.2.1.length < 4000000))) (u:Unit):F_27 N (x,u)=some (x,()):=by
 unfold F_27
 refine (obind_eq' (to_TableS hN x.2.2.2.2.1 (hs.1) ())).trans ?_
 refine (obind_eq' (to_TableS hN x.2.2.2.2.2.1 (hs.2) ())).trans ?_
 rfl
theorem to_ArcS {N:Nat} (hN:4000000≤N) (x:List DArc) (hs:x.length < 4000000∧∀ e0 ∈ x,(e0.2.2.2.2.1.length < 4000000∧∀ e1 ∈ e0.2.2.2.2.1,(e1.1.length < 4000000)∧(e1.2.1.length < 4000000)∧(e1.2.2.1.length < 4000000))∧(e0.2.2.2.2.2.1.length < 4000000∧∀ e1 ∈ e0.2.2.2.2.2.1,(e1.1.length < 4000000)∧(e1.2.1.length < 4000000)∧(e1.2.2.1.length < 4000000))) (u:Unit):F_28 N (x,u)=some (x,()):=by
 unfold F_28
 have hl:=hs.1
 refine (copy_guard hl).trans ?_
 exact copyBy_eq _ (fun e=>F_27 N (e,())) (fun e he=>to_Arc hN e (hs.2 e he) ()) hl hN
theorem to_Cell {N:Nat} (hN:4000000≤N) (x:DCell) (hs:(x.1.size < 4000000)∧(x.2.2.1.length < 4000000∧∀ e0 ∈ x.2.2.1,(e0.1.size < 4000000))∧(x.2.2.2.1.length < 4000000∧∀ e0 ∈ x.2.2.2.1,(e0.2.2.2.2.1.length < 4000000∧∀ e1 ∈ e0.2.2.2.2.1,(e1.1.length < 4000000)∧(e1.2.1.length < 4000000)∧(e1.2.2.1.length < 4000000))∧(e0.2.2.2.2.2.1.length < 4000000∧∀ e1 ∈ e0.2.2.2.2.2.1,(e1.1.length < 4000000)∧(e1.2.1.length < 4000000)∧(e1.2.2.1.length < 4000000)))∧(x.2.2.2.2.1.length < 4000000)) (u:Unit):F_29 N (x,u)=some (x,()):=by
 unfold F_29
 refine (obind_eq' (to_PinS hN x.2.2.1 (hs.2.1) ())).trans ?_
 refine (obind_eq' (to_ArcS hN x.2.2.2.1 (hs.2.2.1) ())).trans ?_
 refine (obind_eq' (to_Int64S hN x.2.2.2.2.1 (hs.2.2.2) ())).trans ?_
 rfl
theorem to_CellS {N:Nat} (hN:4000000≤N) (x:List DCell) (hs:x.length < 4000000∧∀ e0 ∈ x,(e0.1.size < 4000000)∧(e0.2.2.1.length < 4000000∧∀ e1 ∈ e0.2.2.1,(e1.1.size < 4000000))∧(e0.2.2.2.1.length < 4000000∧∀ e1 ∈ e0.2.2.2.1,(e1.2.2.2.2.1.length < 4000000∧∀ e2 ∈ e1.2.2.2.2.1,(e2.1.length < 4000000)∧(e2.2.1.length < 4000000)∧(e2.2.2.1.length < 4000000))∧(e1.2.2.2.2.2.1.length < 4000000∧∀ e2 ∈ e1.2.2.2.2.2.1,(e2.1.length < 4000000)∧(e2.2.1.length < 4000000)∧(e2.2.2.1.length < 4000000)))∧(e0.2.2.2.2.1.length < 4000000)) (u:Unit):F_30 N (x,u)=some (x,()):=by
 unfold F_30
 have hl:=hs.1
 refine (copy_guard hl).trans ?_
 exact copyBy_eq _ (fun e=>F_29 N (e,())) (fun e he=>to_Cell hN e (hs.2 e he) ()) hl hN
theorem to_Library {N:Nat} (hN:4000000≤N) (x:DLibrary) (hs:(x.1.length < 4000000∧∀ e0 ∈ x.1,(e0.1.size < 4000000)∧(e0.2.2.1.length < 4000000∧∀ e1 ∈ e0.2.2.1,(e1.1.size < 4000000))∧(e0.2.2.2.1.length < 4000000∧∀ e1 ∈ e0.2.2.2.1,(e1.2.2.2.2.1.length < 4000000∧∀ e2 ∈ e1.2.2.2.2.1,(e2.1.length < 4000000)∧(e2.2.1.length < 4000000)∧(e2.2.2.1.length < 4000000))∧(e1.2.2.2.2.2.1.length < 4000000∧∀ e2 ∈ e1.2.2.2.2.2.1,(e2.1.length < 4000000)∧(e2.2.1.length < 4000000)∧(e2.2.2.1.length < 4000000)))∧(e0.2.2.2.2.1.length < 4000000))) (u:Unit):F_31 N (x,u)=some (x,()):=by
 unfold F_31
 refine (obind_eq' (to_CellS hN x.1 (hs) ())).trans ?_
 rfl
theorem to_Instance {N:Nat} (hN:4000000≤N) (x:DInstance) (hs:(x.1.size < 4000000)∧(x.2.2.1.length < 4000000)) (u:Unit):F_32 N (x,u)=some (x,()):=by
 unfold F_32
 refine (obind_eq' (to_Int64S hN x.2.2.1 (hs.2) ())).trans ?_
 rfl
theorem to_InstanceS {N:Nat} (hN:4000000≤N) (x:List DInstance) (hs:x.length < 4000000∧∀ e0 ∈ x,(e0.1.size < 4000000)∧(e0.2.2.1.length < 4000000)) (u:Unit):F_33 N (x,u)=some (x,()):=by
 unfold F_33
 have hl:=hs.1
 refine (copy_guard hl).trans ?_
 exact copyBy_eq _ (fun e=>F_32 N (e,())) (fun e he=>to_Instance hN e (hs.2 e he) ()) hl hN
theorem to_StringS {N:Nat} (hN:4000000≤N) (x:List (ByteArray)) (hs:x.length < 4000000∧∀ e0 ∈ x,e0.size < 4000000) (u:Unit):F_34 N (x,u)=some (x,()):=by
 unfold F_34
 have hl:=hs.1
 refine (copy_guard hl).trans ?_
 exact copy_eq _ hl hN
theorem to_Port {N:Nat} (hN:4000000≤N) (x:DPort) (hs:(x.1.size < 4000000)) (u:Unit):F_35 N (x,u)=some (x,()):=by
 unfold F_35
 rfl
theorem to_PortS {N:Nat} (hN:4000000≤N) (x:List DPort) (hs:x.length < 4000000∧∀ e0 ∈ x,(e0.1.size < 4000000)) (u:Unit):F_36 N (x,u)=some (x,()):=by
 unfold F_36
 have hl:=hs.1
 refine (copy_guard hl).trans ?_
 exact copyBy_eq _ (fun e=>F_35 N (e,())) (fun e he=>to_Port hN e (hs.2 e he) ()) hl hN
theorem to_Design {N:Nat} (hN:4000000≤N) (x:DDesign) (hs:(x.1.length < 4000000∧∀ e0 ∈ x.1,(e0.1.size < 4000000)∧(e0.2.2.1.length < 4000000))∧(x.2.1.length < 4000000∧∀ e0 ∈ x.2.1,e0.size < 4000000)∧(x.2.2.1.length < 4000000∧∀ e0 ∈ x.2.2.1,(e0.1.size < 4000000))) (u:Unit):F_37 N (x,u)=some (x,()):=by
 unfold F_37
 refine (obind_eq' (to_InstanceS hN x.1 (hs.1) ())).trans ?_
 refine (obind_eq' (to_StringS hN x.2.1 (hs.2.1) ())).trans ?_
 refine (obind_eq' (to_PortS hN x.2.2.1 (hs.2.2) ())).trans ?_
 rfl
theorem to_Wire {N:Nat} (hN:4000000≤N) (x:DWire) (hs:(x.1.length < 4000000)∧(x.2.1.length < 4000000)∧(x.2.2.1.length < 4000000)∧(x.2.2.2.1.length < 4000000)) (u:Unit):F_38 N (x,u)=some (x,()):=by
 unfold F_38
 refine (obind_eq' (to_Int64S hN x.1 (hs.1) ())).trans ?_
 refine (obind_eq' (to_Int64S hN x.2.1 (hs.2.1) ())).trans ?_
 refine (obind_eq' (to_Int64S hN x.2.2.1 (hs.2.2.1) ())).trans ?_
 refine (obind_eq' (to_Int64S hN x.2.2.2.1 (hs.2.2.2) ())).trans ?_
 rfl
theorem to_WireS {N:Nat} (hN:4000000≤N) (x:List DWire) (hs:x.length < 4000000∧∀ e0 ∈ x,(e0.1.length < 4000000)∧(e0.2.1.length < 4000000)∧(e0.2.2.1.length < 4000000)∧(e0.2.2.2.1.length < 4000000)) (u:Unit):F_39 N (x,u)=some (x,()):=by
 unfold F_39
 have hl:=hs.1
 refine (copy_guard hl).trans ?_
 exact copyBy_eq _ (fun e=>F_38 N (e,())) (fun e he=>to_Wire hN e (hs.2 e he) ()) hl hN
theorem to_Block {N:Nat} (hN:4000000≤N) (x:DBlock) (hs:((x.1.1.length < 4000000∧∀ e0 ∈ x.1.1,(e0.1.size < 4000000)∧(e0.2.2.1.length < 4000000∧∀ e1 ∈ e0.2.2.1,(e1.1.size < 4000000))∧(e0.2.2.2.1.length < 4000000∧∀ e1 ∈ e0.2.2.2.1,(e1.2.2.2.2.1.length < 4000000∧∀ e2 ∈ e1.2.2.2.2.1,(e2.1.length < 4000000)∧(e2.2.1.length < 4000000)∧(e2.2.2.1.length < 4000000))∧(e1.2.2.2.2.2.1.length < 4000000∧∀ e2 ∈ e1.2.2.2.2.2.1,(e2.1.length < 4000000)∧(e2.2.1.length < 4000000)∧(e2.2.2.1.length < 4000000)))∧(e0.2.2.2.2.1.length < 4000000)))∧((x.2.1.1.length < 4000000∧∀ e0 ∈ x.2.1.1,(e0.1.size < 4000000)∧(e0.2.2.1.length < 4000000))∧(x.2.1.2.1.length < 4000000∧∀ e0 ∈ x.2.1.2.1,e0.size < 4000000)∧(x.2.1.2.2.1.length < 4000000∧∀ e0 ∈ x.2.1.2.2.1,(e0.1.size < 4000000)))∧(x.2.2.1.length < 4000000∧∀ e0 ∈ x.2.2.1,(e0.1.length < 4000000)∧(e0.2.1.length < 4000000)∧(e0.2.2.1.length < 4000000)∧(e0.2.2.2.1.length < 4000000))) (u:Unit):F_40 N (x,u)=some (x,()):=by
 unfold F_40
 refine (obind_eq' (to_Library hN x.1 (hs.1) ())).trans ?_
 refine (obind_eq' (to_Design hN x.2.1 (hs.2.1) ())).trans ?_
 refine (obind_eq' (to_WireS hN x.2.2.1 (hs.2.2) ())).trans ?_
 rfl
theorem to_Corner {N:Nat} (hN:4000000≤N) (x:DCorner) (hs:(x.1.size < 4000000)) (u:Unit):F_41 N (x,u)=some (x,()):=by
 unfold F_41
 rfl
theorem to_Span {N:Nat} (hN:4000000≤N) (x:DSpan) (hs:True) (u:Unit):F_42 N (x,u)=some (x,()):=by
 unfold F_42
 rfl
theorem to_Source {N:Nat} (hN:4000000≤N) (x:DSource) (hs:True) (u:Unit):F_43 N (x,u)=some (x,()):=by
 unfold F_43
 refine (obind_eq' (to_Span hN x.2.1 trivial ())).trans ?_
 refine (obind_eq' (to_Span hN x.2.2.1 trivial ())).trans ?_
 rfl
theorem to_SourceS {N:Nat} (hN:4000000≤N) (x:List DSource) (hs:x.length < 4000000) (u:Unit):F_44 N (x,u)=some (x,()):=by
 unfold F_44
 have hl:=hs
 refine (copy_guard hl).trans ?_
 exact copyBy_eq _ (fun e=>F_43 N (e,())) (fun e he=>to_Source hN e trivial ()) hl hN
theorem to_Job {N:Nat} (hN:4000000≤N) (x:DJob) (hs:(((x.1.1.1.length < 4000000∧∀ e0 ∈ x.1.1.1,(e0.1.size < 4000000)∧(e0.2.2.1.length < 4000000∧∀ e1 ∈ e0.2.2.1,(e1.1.size < 4000000))∧(e0.2.2.2.1.length < 4000000∧∀ e1 ∈ e0.2.2.2.1,(e1.2.2.2.2.1.length < 4000000∧∀ e2 ∈ e1.2.2.2.2.1,(e2.1.length < 4000000)∧(e2.2.1.length < 4000000)∧(e2.2.2.1.length < 4000000))∧(e1.2.2.2.2.2.1.length < 4000000∧∀ e2 ∈ e1.2.2.2.2.2.1,(e2.1.length < 4000000)∧(e2.2.1.length < 4000000)∧(e2.2.2.1.length < 4000000)))∧(e0.2.2.2.2.1.length < 4000000)))∧((x.1.2.1.1.length < 4000000∧∀ e0 ∈ x.1.2.1.1,(e0.1.size < 4000000)∧(e0.2.2.1.length < 4000000))∧(x.1.2.1.2.1.length < 4000000∧∀ e0 ∈ x.1.2.1.2.1,e0.size < 4000000)∧(x.1.2.1.2.2.1.length < 4000000∧∀ e0 ∈ x.1.2.1.2.2.1,(e0.1.size < 4000000)))∧(x.1.2.2.1.length < 4000000∧∀ e0 ∈ x.1.2.2.1,(e0.1.length < 4000000)∧(e0.2.1.length < 4000000)∧(e0.2.2.1.length < 4000000)∧(e0.2.2.2.1.length < 4000000)))∧((x.2.1.1.size < 4000000))∧(x.2.2.1.length < 4000000)∧(x.2.2.2.1.length < 4000000)) (u:Unit):F_45 N (x,u)=some (x,()):=by
 unfold F_45
 refine (obind_eq' (to_Block hN x.1 (hs.1) ())).trans ?_
 refine (obind_eq' (to_Corner hN x.2.1 (hs.2.1) ())).trans ?_
 refine (obind_eq' (to_Int64S hN x.2.2.1 (hs.2.2.1) ())).trans ?_
 refine (obind_eq' (to_SourceS hN x.2.2.2.1 (hs.2.2.2) ())).trans ?_
 rfl
theorem eq_Pin {N:Nat} (hN:4000000≤N) (x y:DPin) (hs:(x.1.size < 4000000)) (u:Unit):F_224 N (x,y,u)=some (dec (x=y),()):=by
 refine Ret.tells ?_
 unfold F_224
 obtain ⟨x0,x1,x2,x3,ux⟩:=x
 obtain ⟨y0,y1,y2,y3,uy⟩:=y
 dsimp only
 refine Ret.ifnd ?_ ?_ <;> intro g0
 ·exact Ret.ret (tells_false.2 (fun h=>g0 (congrArg (fun z=>z.1) h)))
 refine Ret.ifnd ?_ ?_ <;> intro g1
 ·exact Ret.ret (tells_false.2 (fun h=>g1 (congrArg (fun z=>z.2.1) h)))
 refine Ret.ifnd ?_ ?_ <;> intro g2
 ·exact Ret.ret (tells_false.2 (fun h=>g2 (congrArg (fun z=>z.2.2.1) h)))
 refine Ret.bif ?_ ?_ <;> intro g3
 ·exact Ret.ret (tells_false.2 fun h=>by have e:=congrArg (fun z=>z.2.2.2.1) h; dsimp only at e; subst e; simp at g3)
 have g3:x3=y3:=by simpa using g3
 subst g0 g1 g2 g3
 exact Ret.ret (tells_true.2 rfl)
theorem eq_PinS {N:Nat} (hN:4000000≤N) (x y:List DPin) (hs:x.length < 4000000∧∀ e0 ∈ x,(e0.1.size < 4000000)) (u:Unit):F_225 N (x,y,u)=some (dec (x=y),()):=by
 unfold F_225
 exact eqLoop_eq (fun e f=>F_224 N (e,f,())) (fun e he f _=>eq_Pin hN e f (hs.2 e he) ()) (hs.1) hN
theorem eq_Int64S {N:Nat} (hN:4000000≤N) (x y:List (Int)) (hs:x.length < 4000000) (u:Unit):F_226 N (x,y,u)=some (dec (x=y),()):=by
 unfold F_226
 exact eqFlat_eq (hs) hN
theorem eq_Table {N:Nat} (hN:4000000≤N) (x y:DTable) (hs:(x.1.length < 4000000)∧(x.2.1.length < 4000000)∧(x.2.2.1.length < 4000000)) (u:Unit):F_227 N (x,y,u)=some (dec (x=y),()):=by
 refine Ret.tells ?_
 unfold F_227
 obtain ⟨x0,x1,x2,ux⟩:=x
 obtain ⟨y0,y1,y2,uy⟩:=y
 dsimp only
 refine Ret.call (eq_Int64S hN x0 y0 (hs.1) ()) (Ret.ifnc ?_ ?_) <;> intro g0
 ·exact Ret.ret (tells_false.2 (fun h=>g0 (congrArg (fun z=>z.1) h)))
 refine Ret.call (eq_Int64S hN x1 y1 (hs.2.1) ()) (Ret.ifnc ?_ ?_) <;> intro g1
 ·exact Ret.ret (tells_false.2 (fun h=>g1 (congrArg (fun z=>z.2.1) h)))
 refine Ret.call (eq_Int64S hN x2 y2 (hs.2.2) ()) (Ret.ifnc ?_ ?_) <;> intro g2
 ·exact Ret.ret (tells_false.2 (fun h=>g2 (congrArg (fun z=>z.2.2.1) h)))
 subst g0 g1 g2
 exact Ret.ret (tells_true.2 rfl)
theorem eq_TableS {N:Nat} (hN:4000000≤N) (x y:List DTable) (hs:x.length < 4000000∧∀ e0 ∈ x,(e0.1.length < 4000000)∧(e0.2.1.length < 4000000)∧(e0.2.2.1.length < 4000000)) (u:Unit):F_228 N (x,y,u)=some (dec (x=y),()):=by
 unfold F_228
 exact eqLoop_eq (fun e f=>F_227 N (e,f,())) (fun e he f _=>eq_Table hN e f (hs.2 e he) ()) (hs.1) hN
theorem eq_Arc {N:Nat} (hN:4000000≤N) (x y:DArc) (hs:(x.2.2.2.2.1.length < 4000000∧∀ e0 ∈ x.2.2.2.2.1,(e0.1.length < 4000000)∧(e0.2.1.length < 4000000)∧(e0.2.2.1.length < 4000000))∧(x.2.2.2.2.2.1.length < 4000000∧∀ e0 ∈ x.2.2.2.2.2.1,(e0.1.length < 4000000)∧(e0.2.1.length < 4000000)∧(e0.2.2.1.length < 4000000))) (u:Unit):F_229 N (x,y,u)=some (dec (x=y),()):=by
 refine Ret.tells ?_
 unfold F_229
 obtain ⟨x0,x1,x2,x3,x4,x5,ux⟩:=x
 obtain ⟨y0,y1,y2,y3,y4,y5,uy⟩:=y
 dsimp only
 refine Ret.ifnd ?_ ?_ <;> intro g0
 ·exact Ret.ret (tells_false.2 (fun h=>g0 (congrArg (fun z=>z.1) h)))
 refine Ret.ifnd ?_ ?_ <;> intro g1
 ·exact Ret.ret (tells_false.2 (fun h=>g1 (congrArg (fun z=>z.2.1) h)))
 refine Ret.ifnd ?_ ?_ <;> intro g2
 ·exact Ret.ret (tells_false.2 (fun h=>g2 (congrArg (fun z=>z.2.2.1) h)))
 refine Ret.ifnd ?_ ?_ <;> intro g3
 ·exact Ret.ret (tells_false.2 (fun h=>g3 (congrArg (fun z=>z.2.2.2.1) h)))
 refine Ret.call (eq_TableS hN x4 y4 (hs.1) ()) (Ret.ifnc ?_ ?_) <;> intro g4
 ·exact Ret.ret (tells_false.2 (fun h=>g4 (congrArg (fun z=>z.2.2.2.2.1) h)))
 refine Ret.call (eq_TableS hN x5 y5 (hs.2) ()) (Ret.ifnc ?_ ?_) <;> intro g5
 ·exact Ret.ret (tells_false.2 (fun h=>g5 (congrArg (fun z=>z.2.2.2.2.2.1) h)))
 subst g0 g1 g2 g3 g4 g5
 exact Ret.ret (tells_true.2 rfl)
theorem eq_ArcS {N:Nat} (hN:4000000≤N) (x y:List DArc) (hs:x.length < 4000000∧∀ e0 ∈ x,(e0.2.2.2.2.1.length < 4000000∧∀ e1 ∈ e0.2.2.2.2.1,(e1.1.length < 4000000)∧(e1.2.1.length < 4000000)∧(e1.2.2.1.length < 4000000))∧(e0.2.2.2.2.2.1.length < 4000000∧∀ e1 ∈ e0.2.2.2.2.2.1,(e1.1.length < 4000000)∧(e1.2.1.length < 4000000)∧(e1.2.2.1.length < 4000000))) (u:Unit):F_230 N (x,y,u)=some (dec (x=y),()):=by
 unfold F_230
 exact eqLoop_eq (fun e f=>F_229 N (e,f,())) (fun e he f _=>eq_Arc hN e f (hs.2 e he) ()) (hs.1) hN
theorem eq_Cell {N:Nat} (hN:4000000≤N) (x y:DCell) (hs:(x.1.size < 4000000)∧(x.2.2.1.length < 4000000∧∀ e0 ∈ x.2.2.1,(e0.1.size < 4000000))∧(x.2.2.2.1.length < 4000000∧∀ e0 ∈ x.2.2.2.1,(e0.2.2.2.2.1.length < 4000000∧∀ e1 ∈ e0.2.2.2.2.1,(e1.1.length < 4000000)∧(e1.2.1.length < 4000000)∧(e1.2.2.1.length < 4000000))∧(e0.2.2.2.2.2.1.length < 4000000∧∀ e1 ∈ e0.2.2.2.2.2.1,(e1.1.length < 4000000)∧(e1.2.1.length < 4000000)∧(e1.2.2.1.length < 4000000)))∧(x.2.2.2.2.1.length < 4000000)) (u:Unit):F_231 N (x,y,u)=some (dec (x=y),()):=by
 refine Ret.tells ?_
 unfold F_231
 obtain ⟨x0,x1,x2,x3,x4,x5,x6,ux⟩:=x
 obtain ⟨y0,y1,y2,y3,y4,y5,y6,uy⟩:=y
 dsimp only
 refine Ret.ifnd ?_ ?_ <;> intro g0
 ·exact Ret.ret (tells_false.2 (fun h=>g0 (congrArg (fun z=>z.1) h)))
 refine Ret.ifnd ?_ ?_ <;> intro g1
 ·exact Ret.ret (tells_false.2 (fun h=>g1 (congrArg (fun z=>z.2.1) h)))
 refine Ret.call (eq_PinS hN x2 y2 (hs.2.1) ()) (Ret.ifnc ?_ ?_) <;> intro g2
 ·exact Ret.ret (tells_false.2 (fun h=>g2 (congrArg (fun z=>z.2.2.1) h)))
 refine Ret.call (eq_ArcS hN x3 y3 (hs.2.2.1) ()) (Ret.ifnc ?_ ?_) <;> intro g3
 ·exact Ret.ret (tells_false.2 (fun h=>g3 (congrArg (fun z=>z.2.2.2.1) h)))
 refine Ret.call (eq_Int64S hN x4 y4 (hs.2.2.2) ()) (Ret.ifnc ?_ ?_) <;> intro g4
 ·exact Ret.ret (tells_false.2 (fun h=>g4 (congrArg (fun z=>z.2.2.2.2.1) h)))
 refine Ret.ifnd ?_ ?_ <;> intro g5
 ·exact Ret.ret (tells_false.2 (fun h=>g5 (congrArg (fun z=>z.2.2.2.2.2.1) h)))
 refine Ret.ifnd ?_ ?_ <;> intro g6
 ·exact Ret.ret (tells_false.2 (fun h=>g6 (congrArg (fun z=>z.2.2.2.2.2.2.1) h)))
 subst g0 g1 g2 g3 g4 g5 g6
 exact Ret.ret (tells_true.2 rfl)
theorem eq_CellS {N:Nat} (hN:4000000≤N) (x y:List DCell) (hs:x.length < 4000000∧∀ e0 ∈ x,(e0.1.size < 4000000)∧(e0.2.2.1.length < 4000000∧∀ e1 ∈ e0.2.2.1,(e1.1.size < 4000000))∧(e0.2.2.2.1.length < 4000000∧∀ e1 ∈ e0.2.2.2.1,(e1.2.2.2.2.1.length < 4000000∧∀ e2 ∈ e1.2.2.2.2.1,(e2.1.length < 4000000)∧(e2.2.1.length < 4000000)∧(e2.2.2.1.length < 4000000))∧(e1.2.2.2.2.2.1.length < 4000000∧∀ e2 ∈ e1.2.2.2.2.2.1,(e2.1.length < 4000000)∧(e2.2.1.length < 4000000)∧(e2.2.2.1.length < 4000000)))∧(e0.2.2.2.2.1.length < 4000000)) (u:Unit):F_232 N (x,y,u)=some (dec (x=y),()):=by
 unfold F_232
 exact eqLoop_eq (fun e f=>F_231 N (e,f,())) (fun e he f _=>eq_Cell hN e f (hs.2 e he) ()) (hs.1) hN
theorem eq_Library {N:Nat} (hN:4000000≤N) (x y:DLibrary) (hs:(x.1.length < 4000000∧∀ e0 ∈ x.1,(e0.1.size < 4000000)∧(e0.2.2.1.length < 4000000∧∀ e1 ∈ e0.2.2.1,(e1.1.size < 4000000))∧(e0.2.2.2.1.length < 4000000∧∀ e1 ∈ e0.2.2.2.1,(e1.2.2.2.2.1.length < 4000000∧∀ e2 ∈ e1.2.2.2.2.1,(e2.1.length < 4000000)∧(e2.2.1.length < 4000000)∧(e2.2.2.1.length < 4000000))∧(e1.2.2.2.2.2.1.length < 4000000∧∀ e2 ∈ e1.2.2.2.2.2.1,(e2.1.length < 4000000)∧(e2.2.1.length < 4000000)∧(e2.2.2.1.length < 4000000)))∧(e0.2.2.2.2.1.length < 4000000))) (u:Unit):F_233 N (x,y,u)=some (dec (x=y),()):=by
 refine Ret.tells ?_
 unfold F_233
 obtain ⟨x0,ux⟩:=x
 obtain ⟨y0,uy⟩:=y
 dsimp only
 refine Ret.call (eq_CellS hN x0 y0 (hs) ()) (Ret.ifnc ?_ ?_) <;> intro g0
 ·exact Ret.ret (tells_false.2 (fun h=>g0 (congrArg (fun z=>z.1) h)))
 subst g0
 exact Ret.ret (tells_true.2 rfl)
theorem eq_Instance {N:Nat} (hN:4000000≤N) (x y:DInstance) (hs:(x.1.size < 4000000)∧(x.2.2.1.length < 4000000)) (u:Unit):F_234 N (x,y,u)=some (dec (x=y),()):=by
 refine Ret.tells ?_
 unfold F_234
 obtain ⟨x0,x1,x2,ux⟩:=x
 obtain ⟨y0,y1,y2,uy⟩:=y
 dsimp only
 refine Ret.ifnd ?_ ?_ <;> intro g0
 ·exact Ret.ret (tells_false.2 (fun h=>g0 (congrArg (fun z=>z.1) h)))
 refine Ret.ifnd ?_ ?_ <;> intro g1
 ·exact Ret.ret (tells_false.2 (fun h=>g1 (congrArg (fun z=>z.2.1) h)))
 refine Ret.call (eq_Int64S hN x2 y2 (hs.2) ()) (Ret.ifnc ?_ ?_) <;> intro g2
 ·exact Ret.ret (tells_false.2 (fun h=>g2 (congrArg (fun z=>z.2.2.1) h)))
 subst g0 g1 g2
 exact Ret.ret (tells_true.2 rfl)
theorem eq_InstanceS {N:Nat} (hN:4000000≤N) (x y:List DInstance) (hs:x.length < 4000000∧∀ e0 ∈ x,(e0.1.size < 4000000)∧(e0.2.2.1.length < 4000000)) (u:Unit):F_235 N (x,y,u)=some (dec (x=y),()):=by
 unfold F_235
 exact eqLoop_eq (fun e f=>F_234 N (e,f,())) (fun e he f _=>eq_Instance hN e f (hs.2 e he) ()) (hs.1) hN
theorem eq_StringS {N:Nat} (hN:4000000≤N) (x y:List (ByteArray)) (hs:x.length < 4000000∧∀ e0 ∈ x,e0.size < 4000000) (u:Unit):F_236 N (x,y,u)=some (dec (x=y),()):=by
 unfold F_236
 exact eqFlat_eq (hs.1) hN
theorem eq_Port {N:Nat} (hN:4000000≤N) (x y:DPort) (hs:(x.1.size < 4000000)) (u:Unit):F_237 N (x,y,u)=some (dec (x=y),()):=by
 refine Ret.tells ?_
 unfold F_237
 obtain ⟨x0,x1,x2,ux⟩:=x
 obtain ⟨y0,y1,y2,uy⟩:=y
 dsimp only
 refine Ret.ifnd ?_ ?_ <;> intro g0
 ·exact Ret.ret (tells_false.2 (fun h=>g0 (congrArg (fun z=>z.1) h)))
 refine Ret.ifnd ?_ ?_ <;> intro g1
 ·exact Ret.ret (tells_false.2 (fun h=>g1 (congrArg (fun z=>z.2.1) h)))
 refine Ret.ifnd ?_ ?_ <;> intro g2
 ·exact Ret.ret (tells_false.2 (fun h=>g2 (congrArg (fun z=>z.2.2.1) h)))
 subst g0 g1 g2
 exact Ret.ret (tells_true.2 rfl)
theorem eq_PortS {N:Nat} (hN:4000000≤N) (x y:List DPort) (hs:x.length < 4000000∧∀ e0 ∈ x,(e0.1.size < 4000000)) (u:Unit):F_238 N (x,y,u)=some (dec (x=y),()):=by
 unfold F_238
 exact eqLoop_eq (fun e f=>F_237 N (e,f,())) (fun e he f _=>eq_Port hN e f (hs.2 e he) ()) (hs.1) hN
theorem eq_Design {N:Nat} (hN:4000000≤N) (x y:DDesign) (hs:(x.1.length < 4000000∧∀ e0 ∈ x.1,(e0.1.size < 4000000)∧(e0.2.2.1.length < 4000000))∧(x.2.1.length < 4000000∧∀ e0 ∈ x.2.1,e0.size < 4000000)∧(x.2.2.1.length < 4000000∧∀ e0 ∈ x.2.2.1,(e0.1.size < 4000000))) (u:Unit):F_239 N (x,y,u)=some (dec (x=y),()):=by
 refine Ret.tells ?_
 unfold F_239
 obtain ⟨x0,x1,x2,ux⟩:=x
 obtain ⟨y0,y1,y2,uy⟩:=y
 dsimp only
 refine Ret.call (eq_InstanceS hN x0 y0 (hs.1) ()) (Ret.ifnc ?_ ?_) <;> intro g0
 ·exact Ret.ret (tells_false.2 (fun h=>g0 (congrArg (fun z=>z.1) h)))
 refine Ret.call (eq_StringS hN x1 y1 (hs.2.1) ()) (Ret.ifnc ?_ ?_) <;> intro g1
 ·exact Ret.ret (tells_false.2 (fun h=>g1 (congrArg (fun z=>z.2.1) h)))
 refine Ret.call (eq_PortS hN x2 y2 (hs.2.2) ()) (Ret.ifnc ?_ ?_) <;> intro g2
 ·exact Ret.ret (tells_false.2 (fun h=>g2 (congrArg (fun z=>z.2.2.1) h)))
 subst g0 g1 g2
 exact Ret.ret (tells_true.2 rfl)
theorem eq_Wire {N:Nat} (hN:4000000≤N) (x y:DWire) (hs:(x.1.length < 4000000)∧(x.2.1.length < 4000000)∧(x.2.2.1.length < 4000000)∧(x.2.2.2.1.length < 4000000)) (u:Unit):F_240 N (x,y,u)=some (dec (x=y),()):=by
 refine Ret.tells ?_
 unfold F_240
 obtain ⟨x0,x1,x2,x3,ux⟩:=x
 obtain ⟨y0,y1,y2,y3,uy⟩:=y
 dsimp only
 refine Ret.call (eq_Int64S hN x0 y0 (hs.1) ()) (Ret.ifnc ?_ ?_) <;> intro g0
 ·exact Ret.ret (tells_false.2 (fun h=>g0 (congrArg (fun z=>z.1) h)))
 refine Ret.call (eq_Int64S hN x1 y1 (hs.2.1) ()) (Ret.ifnc ?_ ?_) <;> intro g1
 ·exact Ret.ret (tells_false.2 (fun h=>g1 (congrArg (fun z=>z.2.1) h)))
 refine Ret.call (eq_Int64S hN x2 y2 (hs.2.2.1) ()) (Ret.ifnc ?_ ?_) <;> intro g2
 ·exact Ret.ret (tells_false.2 (fun h=>g2 (congrArg (fun z=>z.2.2.1) h)))
 refine Ret.call (eq_Int64S hN x3 y3 (hs.2.2.2) ()) (Ret.ifnc ?_ ?_) <;> intro g3
 ·exact Ret.ret (tells_false.2 (fun h=>g3 (congrArg (fun z=>z.2.2.2.1) h)))
 subst g0 g1 g2 g3
 exact Ret.ret (tells_true.2 rfl)
theorem eq_WireS {N:Nat} (hN:4000000≤N) (x y:List DWire) (hs:x.length < 4000000∧∀ e0 ∈ x,(e0.1.length < 4000000)∧(e0.2.1.length < 4000000)∧(e0.2.2.1.length < 4000000)∧(e0.2.2.2.1.length < 4000000)) (u:Unit):F_241 N (x,y,u)=some (dec (x=y),()):=by
 unfold F_241
 exact eqLoop_eq (fun e f=>F_240 N (e,f,())) (fun e he f _=>eq_Wire hN e f (hs.2 e he) ()) (hs.1) hN
theorem eq_Block {N:Nat} (hN:4000000≤N) (x y:DBlock) (hs:((x.1.1.length < 4000000∧∀ e0 ∈ x.1.1,(e0.1.size < 4000000)∧(e0.2.2.1.length < 4000000∧∀ e1 ∈ e0.2.2.1,(e1.1.size < 4000000))∧(e0.2.2.2.1.length < 4000000∧∀ e1 ∈ e0.2.2.2.1,(e1.2.2.2.2.1.length < 4000000∧∀ e2 ∈ e1.2.2.2.2.1,(e2.1.length < 4000000)∧(e2.2.1.length < 4000000)∧(e2.2.2.1.length < 4000000))∧(e1.2.2.2.2.2.1.length < 4000000∧∀ e2 ∈ e1.2.2.2.2.2.1,(e2.1.length < 4000000)∧(e2.2.1.length < 4000000)∧(e2.2.2.1.length < 4000000)))∧(e0.2.2.2.2.1.length < 4000000)))∧((x.2.1.1.length < 4000000∧∀ e0 ∈ x.2.1.1,(e0.1.size < 4000000)∧(e0.2.2.1.length < 4000000))∧(x.2.1.2.1.length < 4000000∧∀ e0 ∈ x.2.1.2.1,e0.size < 4000000)∧(x.2.1.2.2.1.length < 4000000∧∀ e0 ∈ x.2.1.2.2.1,(e0.1.size < 4000000)))∧(x.2.2.1.length < 4000000∧∀ e0 ∈ x.2.2.1,(e0.1.length < 4000000)∧(e0.2.1.length < 4000000)∧(e0.2.2.1.length < 4000000)∧(e0.2.2.2.1.length < 4000000))) (u:Unit):F_242 N (x,y,u)=some (dec (x=y),()):=by
 refine Ret.tells ?_
 unfold F_242
 obtain ⟨x0,x1,x2,ux⟩:=x
 obtain ⟨y0,y1,y2,uy⟩:=y
 dsimp only
 refine Ret.call (eq_Library hN x0 y0 (hs.1) ()) (Ret.ifnc ?_ ?_) <;> intro g0
 ·exact Ret.ret (tells_false.2 (fun h=>g0 (congrArg (fun z=>z.1) h)))
 refine Ret.call (eq_Design hN x1 y1 (hs.2.1) ()) (Ret.ifnc ?_ ?_) <;> intro g1
 ·exact Ret.ret (tells_false.2 (fun h=>g1 (congrArg (fun z=>z.2.1) h)))
 refine Ret.call (eq_WireS hN x2 y2 (hs.2.2) ()) (Ret.ifnc ?_ ?_) <;> intro g2
 ·exact Ret.ret (tells_false.2 (fun h=>g2 (congrArg (fun z=>z.2.2.1) h)))
 subst g0 g1 g2
 exact Ret.ret (tells_true.2 rfl)
theorem eq_Corner {N:Nat} (hN:4000000≤N) (x y:DCorner) (hs:(x.1.size < 4000000)) (u:Unit):F_243 N (x,y,u)=some (dec (x=y),()):=by
 refine Ret.tells ?_
 unfold F_243
 obtain ⟨x0,x1,x2,x3,x4,ux⟩:=x
 obtain ⟨y0,y1,y2,y3,y4,uy⟩:=y
 dsimp only
 refine Ret.ifnd ?_ ?_ <;> intro g0
 ·exact Ret.ret (tells_false.2 (fun h=>g0 (congrArg (fun z=>z.1) h)))
 refine Ret.ifnd ?_ ?_ <;> intro g1
 ·exact Ret.ret (tells_false.2 (fun h=>g1 (congrArg (fun z=>z.2.1) h)))
 refine Ret.ifnd ?_ ?_ <;> intro g2
 ·exact Ret.ret (tells_false.2 (fun h=>g2 (congrArg (fun z=>z.2.2.1) h)))
 refine Ret.ifnd ?_ ?_ <;> intro g3
 ·exact Ret.ret (tells_false.2 (fun h=>g3 (congrArg (fun z=>z.2.2.2.1) h)))
 refine Ret.ifnd ?_ ?_ <;> intro g4
 ·exact Ret.ret (tells_false.2 (fun h=>g4 (congrArg (fun z=>z.2.2.2.2.1) h)))
 subst g0 g1 g2 g3 g4
 exact Ret.ret (tells_true.2 rfl)
theorem eq_Span {N:Nat} (hN:4000000≤N) (x y:DSpan) (hs:True) (u:Unit):F_244 N (x,y,u)=some (dec (x=y),()):=by
 refine Ret.tells ?_
 unfold F_244
 obtain ⟨x0,x1,ux⟩:=x
 obtain ⟨y0,y1,uy⟩:=y
 dsimp only
 refine Ret.ifnd ?_ ?_ <;> intro g0
 ·exact Ret.ret (tells_false.2 (fun h=>g0 (congrArg (fun z=>z.1) h)))
 refine Ret.ifnd ?_ ?_ <;> intro g1
 ·exact Ret.ret (tells_false.2 (fun h=>g1 (congrArg (fun z=>z.2.1) h)))
 subst g0 g1
 exact Ret.ret (tells_true.2 rfl)
theorem eq_Source {N:Nat} (hN:4000000≤N) (x y:DSource) (hs:True) (u:Unit):F_245 N (x,y,u)=some (dec (x=y),()):=by
 refine Ret.tells ?_
 unfold F_245
 obtain ⟨x0,x1,x2,ux⟩:=x
 obtain ⟨y0,y1,y2,uy⟩:=y
 dsimp only
 refine Ret.ifnd ?_ ?_ <;> intro g0
 ·exact Ret.ret (tells_false.2 (fun h=>g0 (congrArg (fun z=>z.1) h)))
 refine Ret.call (eq_Span hN x1 y1 trivial ()) (Ret.ifnc ?_ ?_) <;> intro g1
 ·exact Ret.ret (tells_false.2 (fun h=>g1 (congrArg (fun z=>z.2.1) h)))
 refine Ret.call (eq_Span hN x2 y2 trivial ()) (Ret.ifnc ?_ ?_) <;> intro g2
 ·exact Ret.ret (tells_false.2 (fun h=>g2 (congrArg (fun z=>z.2.2.1) h)))
 subst g0 g1 g2
 exact Ret.ret (tells_true.2 rfl)
theorem eq_SourceS {N:Nat} (hN:4000000≤N) (x y:List DSource) (hs:x.length < 4000000) (u:Unit):F_246 N (x,y,u)=some (dec (x=y),()):=by
 unfold F_246
 exact eqLoop_eq (fun e f=>F_245 N (e,f,())) (fun e he f _=>eq_Source hN e f trivial ()) (hs) hN
theorem eq_Job {N:Nat} (hN:4000000≤N) (x y:DJob) (hs:(((x.1.1.1.length < 4000000∧∀ e0 ∈ x.1.1.1,(e0.1.size < 4000000)∧(e0.2.2.1.length < 4000000∧∀ e1 ∈ e0.2.2.1,(e1.1.size < 4000000))∧(e0.2.2.2.1.length < 4000000∧∀ e1 ∈ e0.2.2.2.1,(e1.2.2.2.2.1.length < 4000000∧∀ e2 ∈ e1.2.2.2.2.1,(e2.1.length < 4000000)∧(e2.2.1.length < 4000000)∧(e2.2.2.1.length < 4000000))∧(e1.2.2.2.2.2.1.length < 4000000∧∀ e2 ∈ e1.2.2.2.2.2.1,(e2.1.length < 4000000)∧(e2.2.1.length < 4000000)∧(e2.2.2.1.length < 4000000)))∧(e0.2.2.2.2.1.length < 4000000)))∧((x.1.2.1.1.length < 4000000∧∀ e0 ∈ x.1.2.1.1,(e0.1.size < 4000000)∧(e0.2.2.1.length < 4000000))∧(x.1.2.1.2.1.length < 4000000∧∀ e0 ∈ x.1.2.1.2.1,e0.size < 4000000)∧(x.1.2.1.2.2.1.length < 4000000∧∀ e0 ∈ x.1.2.1.2.2.1,(e0.1.size < 4000000)))∧(x.1.2.2.1.length < 4000000∧∀ e0 ∈ x.1.2.2.1,(e0.1.length < 4000000)∧(e0.2.1.length < 4000000)∧(e0.2.2.1.length < 4000000)∧(e0.2.2.2.1.length < 4000000)))∧((x.2.1.1.size < 4000000))∧(x.2.2.1.length < 4000000)∧(x.2.2.2.1.length < 4000000)) (u:Unit):F_247 N (x,y,u)=some (dec (x=y),()):=by
 refine Ret.tells ?_
 unfold F_247
 obtain ⟨x0,x1,x2,x3,ux⟩:=x
 obtain ⟨y0,y1,y2,y3,uy⟩:=y
 dsimp only
 refine Ret.call (eq_Block hN x0 y0 (hs.1) ()) (Ret.ifnc ?_ ?_) <;> intro g0
 ·exact Ret.ret (tells_false.2 (fun h=>g0 (congrArg (fun z=>z.1) h)))
 refine Ret.call (eq_Corner hN x1 y1 (hs.2.1) ()) (Ret.ifnc ?_ ?_) <;> intro g1
 ·exact Ret.ret (tells_false.2 (fun h=>g1 (congrArg (fun z=>z.2.1) h)))
 refine Ret.call (eq_Int64S hN x2 y2 (hs.2.2.1) ()) (Ret.ifnc ?_ ?_) <;> intro g2
 ·exact Ret.ret (tells_false.2 (fun h=>g2 (congrArg (fun z=>z.2.2.1) h)))
 refine Ret.call (eq_SourceS hN x3 y3 (hs.2.2.2) ()) (Ret.ifnc ?_ ?_) <;> intro g3
 ·exact Ret.ret (tells_false.2 (fun h=>g3 (congrArg (fun z=>z.2.2.2.1) h)))
 subst g0 g1 g2 g3
 exact Ret.ret (tells_true.2 rfl)
theorem sz_Path {N:Nat} (hN:4000000≤N) (x:DPath) (room:Int) (h:0≤room∧room≤1048576) (hf:(TPath:Ty).fits x) (u:Unit):Ret (F_249 N (x,room,u)) (fun r=>r.1≤room∧(0≤r.1→(x.2.1.length < 4000000))):=by
 have hm:=maxLen_eq
 unfold F_249
 dsimp only
 have hf0:=hf.2.1
 refine Ret.bind (sz_Int64S hN x.2.1 room ⟨by omega,by omega⟩ hf0 ()) ?_
 rintro ⟨r0,v0⟩ ⟨a0,b0⟩
 dsimp only at a0 b0 ⊢
 refine Ret.ifd ?_ ?_ <;> intro g0
 ·exact Ret.ret ⟨by show (-1:Int)≤room; omega,fun h=>absurd h (by decide)⟩
 exact Ret.ret ⟨by show r0≤room; omega,fun _=>b0 (by omega)⟩
theorem to_Path {N:Nat} (hN:4000000≤N) (x:DPath) (hs:(x.2.1.length < 4000000)) (u:Unit):F_250 N (x,u)=some (x,()):=by
 unfold F_250
 refine (obind_eq' (to_Int64S hN x.2.1 (hs) ())).trans ?_
 rfl
theorem eq_Path {N:Nat} (hN:4000000≤N) (x y:DPath) (hs:(x.2.1.length < 4000000)) (u:Unit):F_266 N (x,y,u)=some (dec (x=y),()):=by
 refine Ret.tells ?_
 unfold F_266
 obtain ⟨x0,x1,x2,ux⟩:=x
 obtain ⟨y0,y1,y2,uy⟩:=y
 dsimp only
 refine Ret.ifnd ?_ ?_ <;> intro g0
 ·exact Ret.ret (tells_false.2 (fun h=>g0 (congrArg (fun z=>z.1) h)))
 refine Ret.call (eq_Int64S hN x1 y1 (hs) ()) (Ret.ifnc ?_ ?_) <;> intro g1
 ·exact Ret.ret (tells_false.2 (fun h=>g1 (congrArg (fun z=>z.2.1) h)))
 refine Ret.ifnd ?_ ?_ <;> intro g2
 ·exact Ret.ret (tells_false.2 (fun h=>g2 (congrArg (fun z=>z.2.2.1) h)))
 subst g0 g1 g2
 exact Ret.ret (tells_true.2 rfl)
end Go.Proofs.YtjimamifmpbhgaaGreatDoor
