/- The marking functions: how much they mark. Printed by my lawgen.py. No program in sight. -/
import Derived.Test.YtjimamifmpbhgaaGreatDoorPgV
namespace Go.Proofs.YtjimamifmpbhgaaGreatDoor
set_option linter.unusedSimpArgs false
set_option linter.unusedVariables false
def q183 (x:DPin):Nat:=1+1+1+1
def q278 (x:List DPin):Nat:=(x.map fun e=>q183 e).sum
def q31 (x:List (Int)):Nat:=(x.map fun e=>1).sum
def q109 (x:DTable):Nat:=q31 x.1+q31 x.2.1+q31 x.2.2.1
def q116 (x:List DTable):Nat:=(x.map fun e=>q109 e).sum
def q188 (x:DArc):Nat:=1+1+1+1+q116 x.2.2.2.2.1+q116 x.2.2.2.2.2.1
def q279 (x:List DArc):Nat:=(x.map fun e=>q188 e).sum
def q128 (x:DCell):Nat:=1+1+q278 x.2.2.1+q279 x.2.2.2.1+q31 x.2.2.2.2.1+1+1
def q145 (x:List DCell):Nat:=(x.map fun e=>q128 e).sum
def q121 (x:DLibrary):Nat:=q145 x.1
def q103 (x:DLibrary):Nat:=q145 x.1
theorem q654 (x:DLibrary):q103 x≤q121 x:=by
 unfold q103 q121
 omega
def q61 (x:DInstance):Nat:=1+1+q31 x.2.2.1
def q77 (x:List DInstance):Nat:=(x.map fun e=>q61 e).sum
def q105 (x:List (ByteArray)):Nat:=(x.map fun e=>1).sum
def q132 (x:DPort):Nat:=1+1+1
def q149 (x:List DPort):Nat:=(x.map fun e=>q132 e).sum
def q141 (x:DDesign):Nat:=q77 x.1+q105 x.2.1+q149 x.2.2.1
def q117 (x:DDesign):Nat:=q77 x.1+q105 x.2.1+q149 x.2.2.1
theorem q722 (x:DDesign):q117 x≤q141 x:=by
 unfold q117 q141
 omega
def q130 (x:DWire):Nat:=q31 x.1+q31 x.2.1+q31 x.2.2.1+q31 x.2.2.2.1
def q157 (x:List DWire):Nat:=(x.map fun e=>q130 e).sum
def q179 (x:DBlock):Nat:=q121 x.1+q141 x.2.1+q157 x.2.2.1
def q143 (x:DBlock):Nat:=q103 x.1+q117 x.2.1+q157 x.2.2.1
theorem q768 (x:DBlock):q143 x≤q179 x:=by
 have h0:=q654 x.1
 have h1:=q722 x.2.1
 unfold q143 q179
 omega
def q133 (x:DSpan):Nat:=1+1
def q142 (x:DSource):Nat:=1+q133 x.2.1+q133 x.2.2.1
def q87 (x:List DSource):Nat:=(x.map fun e=>q142 e).sum
def q305 (x:DCorner):Nat:=1+1+1+1+1
def q465 (x:DJob):Nat:=q179 x.1+q305 x.2.1+q31 x.2.2.1+q87 x.2.2.2.1
def q363 (x:DJob):Nat:=q143 x.1+q31 x.2.2.1+q87 x.2.2.2.1
theorem ce_Job (x:DJob):q363 x≤q465 x:=by
 have h0:=q768 x.1
 unfold q363 q465
 omega
def q330 (x:DPath):Nat:=1+q31 x.2.1+1
def q266 (x:DPath):Nat:=q31 x.2.1
theorem q700 (x:DPath):q266 x≤q330 x:=by
 unfold q266 q330
 omega
theorem sc_Pin {N:Nat} (hN:4000000≤N) (x:DPin) (room:Int) (h:0≤room∧room≤1048576) (hf:(TPin:Ty).fits x) (u:Unit):Ret (F_0 N (x,room,u)) (fun r=>r.1≤room∧(0≤r.1→((x.1.size<4000000))∧(q183 x:Int)≤4+32 * (room - r.1))):=by
 have hm:=q28
 unfold F_0
 dsimp only
 have hf0:=hf.1
 rw [wrapI (n:=room - (x.1.size:Int)) (by omega) (by omega)]
 refine Ret.ifd ?_ ?_ <;> intro g0
 ·exact Ret.ret ⟨by show (-1:Int)≤room; omega,fun h=>absurd h (by decide)⟩
 exact Ret.ret ⟨by show (room - (x.1.size:Int))≤room; omega,fun _=>⟨(by omega),by simp only [q183]; show _≤4+32 * (room - (room - (x.1.size:Int))); omega⟩⟩
theorem q805 {N:Nat} (hN:4000000≤N) (x:List DPin) (room:Int) (h:0≤room∧room≤1048576) (hf:((.slice TPin):Ty).fits x) (u:Unit):Ret (F_1 N (x,room,u)) (fun r=>r.1≤room∧(0≤r.1→(x.length<4000000∧∀ e0∈x,(e0.1.size<4000000))∧(q278 x:Int)≤32 * (room - r.1))):=by
 have hm:=q28
 unfold F_1
 have hl:=hf.1
 dsimp only
 rw [wrapI (n:=room - (x.length:Int)) (by omega) (by omega)]
 refine Ret.ifd ?_ ?_ <;> intro h1
 ·exact Ret.ret ⟨by show (-1:Int)≤room; omega,fun h=>absurd h (by decide)⟩
 refine Ret.upM 0 x.length (fun i r _=>0≤r∧r≤room - (x.length:Int)∧(∀ j,j<i→∀ h:j<x.length,(x[j].1.size<4000000))∧((((x.take i).map fun e=>q183 e).sum:Nat):Int)≤32 * (i:Int)+32 * (room - (x.length:Int) - r)) (by omega) (by omega) (by omega) ⟨by omega,by omega,q17,by simp⟩ ?_ ?_
 ·rintro i r t next _ hi ⟨hr0,hr,hI,hS⟩ hn
  have hfi:=hf.2 _ (List.getElem_mem hi)
  have hts:=q43 (fun e=>q183 e) hi
  dsimp only at hts ⊢
  refine Ret.must ?_ ?_
  ·omega
  refine Ret.atN hi (Ret.bind (sc_Pin hN x[i] r ⟨hr0,by omega⟩ hfi ()) ?_)
  rintro ⟨r2,v⟩ ⟨h2,h3⟩
  dsimp only at h2 h3 ⊢
  refine Ret.ifd ?_ ?_ <;> intro h4
  ·exact Ret.ret ⟨by show (-1:Int)≤room; omega,fun h=>absurd h (by decide)⟩
  ·obtain ⟨h5,h6⟩:=h3 (by omega)
   exact hn _ _ ⟨by omega,by omega,q9 hI fun _=>h5,by rw [hts]; omega⟩
 ·rintro r t next ⟨hr0,hr,hI,hS⟩
  rw [List.take_length] at hS
  dsimp only
  refine Ret.mustN ?_ (Ret.ret ⟨by show r≤room; omega,fun _=>⟨⟨by omega,q10.2 fun j hj=>hI j hj hj⟩,?_⟩⟩)
  ·omega
  ·unfold q278; show _≤32 * (room - r); omega
theorem q74 {N:Nat} (hN:4000000≤N) (x:List (Int)) (room:Int) (h:0≤room∧room≤1048576) (hf:((.slice (.int .i64)):Ty).fits x) (u:Unit):Ret (F_2 N (x,room,u)) (fun r=>r.1≤room∧(0≤r.1→(x.length<4000000)∧(q31 x:Int)≤32 * (room - r.1))):=by
 have hm:=q28
 unfold F_2
 have hl:=hf.1
 dsimp only
 rw [wrapI (n:=room - (x.length:Int)) (by omega) (by omega)]
 refine Ret.ifd ?_ ?_ <;> intro h1
 ·exact Ret.ret ⟨by show (-1:Int)≤room; omega,fun h=>absurd h (by decide)⟩
 ·have hc:q31 x≤32 * x.length:=by
   unfold q31
   refine q418 (fun e _=>?_)
   omega
  exact Ret.ret ⟨by show room - (x.length:Int)≤room; omega,fun _=>⟨by omega,by show _≤32 * (room - (room - (x.length:Int))); omega⟩⟩
theorem q778 {N:Nat} (hN:4000000≤N) (x:DTable) (room:Int) (h:0≤room∧room≤1048576) (hf:(TTable:Ty).fits x) (u:Unit):Ret (F_3 N (x,room,u)) (fun r=>r.1≤room∧(0≤r.1→((x.1.length<4000000)∧(x.2.1.length<4000000)∧(x.2.2.1.length<4000000))∧(q109 x:Int)≤0+32 * (room - r.1))):=by
 have hm:=q28
 unfold F_3
 dsimp only
 have hf0:=hf.1
 refine Ret.bind (q74 hN x.1 room ⟨by omega,by omega⟩ hf0 ()) ?_
 rintro ⟨r0,v0⟩ ⟨a0,b0⟩
 dsimp only at a0 b0 ⊢
 refine Ret.ifd ?_ ?_ <;> intro g0
 ·exact Ret.ret ⟨by show (-1:Int)≤room; omega,fun h=>absurd h (by decide)⟩
 have hf1:=hf.2.1
 refine Ret.bind (q74 hN x.2.1 r0 ⟨by omega,by omega⟩ hf1 ()) ?_
 rintro ⟨r1,v1⟩ ⟨a1,b1⟩
 dsimp only at a1 b1 ⊢
 refine Ret.ifd ?_ ?_ <;> intro g1
 ·exact Ret.ret ⟨by show (-1:Int)≤room; omega,fun h=>absurd h (by decide)⟩
 have hf2:=hf.2.2.1
 refine Ret.bind (q74 hN x.2.2.1 r1 ⟨by omega,by omega⟩ hf2 ()) ?_
 rintro ⟨r2,v2⟩ ⟨a2,b2⟩
 dsimp only at a2 b2 ⊢
 refine Ret.ifd ?_ ?_ <;> intro g2
 ·exact Ret.ret ⟨by show (-1:Int)≤room; omega,fun h=>absurd h (by decide)⟩
 have c0:=(b0 (by omega)).2
 have c1:=(b1 (by omega)).2
 have c2:=(b2 (by omega)).2
 exact Ret.ret ⟨by show r2≤room; omega,fun _=>⟨⟨(b0 (by omega)).1,(b1 (by omega)).1,(b2 (by omega)).1⟩,by simp only [q109]; show _≤0+32 * (room - r2); omega⟩⟩
theorem q485 {N:Nat} (hN:4000000≤N) (x:List DTable) (room:Int) (h:0≤room∧room≤1048576) (hf:((.slice TTable):Ty).fits x) (u:Unit):Ret (F_4 N (x,room,u)) (fun r=>r.1≤room∧(0≤r.1→(x.length<4000000∧∀ e0∈x,(e0.1.length<4000000)∧(e0.2.1.length<4000000)∧(e0.2.2.1.length<4000000))∧(q116 x:Int)≤32 * (room - r.1))):=by
 have hm:=q28
 unfold F_4
 have hl:=hf.1
 dsimp only
 rw [wrapI (n:=room - (x.length:Int)) (by omega) (by omega)]
 refine Ret.ifd ?_ ?_ <;> intro h1
 ·exact Ret.ret ⟨by show (-1:Int)≤room; omega,fun h=>absurd h (by decide)⟩
 refine Ret.upM 0 x.length (fun i r _=>0≤r∧r≤room - (x.length:Int)∧(∀ j,j<i→∀ h:j<x.length,(x[j].1.length<4000000)∧(x[j].2.1.length<4000000)∧(x[j].2.2.1.length<4000000))∧((((x.take i).map fun e=>q109 e).sum:Nat):Int)≤32 * (i:Int)+32 * (room - (x.length:Int) - r)) (by omega) (by omega) (by omega) ⟨by omega,by omega,q17,by simp⟩ ?_ ?_
 ·rintro i r t next _ hi ⟨hr0,hr,hI,hS⟩ hn
  have hfi:=hf.2 _ (List.getElem_mem hi)
  have hts:=q43 (fun e=>q109 e) hi
  dsimp only at hts ⊢
  refine Ret.must ?_ ?_
  ·omega
  refine Ret.atN hi (Ret.bind (q778 hN x[i] r ⟨hr0,by omega⟩ hfi ()) ?_)
  rintro ⟨r2,v⟩ ⟨h2,h3⟩
  dsimp only at h2 h3 ⊢
  refine Ret.ifd ?_ ?_ <;> intro h4
  ·exact Ret.ret ⟨by show (-1:Int)≤room; omega,fun h=>absurd h (by decide)⟩
  ·obtain ⟨h5,h6⟩:=h3 (by omega)
   exact hn _ _ ⟨by omega,by omega,q9 hI fun _=>h5,by rw [hts]; omega⟩
 ·rintro r t next ⟨hr0,hr,hI,hS⟩
  rw [List.take_length] at hS
  dsimp only
  refine Ret.mustN ?_ (Ret.ret ⟨by show r≤room; omega,fun _=>⟨⟨by omega,q10.2 fun j hj=>hI j hj hj⟩,?_⟩⟩)
  ·omega
  ·unfold q116; show _≤32 * (room - r); omega
theorem sc_Arc {N:Nat} (hN:4000000≤N) (x:DArc) (room:Int) (h:0≤room∧room≤1048576) (hf:(TArc:Ty).fits x) (u:Unit):Ret (F_5 N (x,room,u)) (fun r=>r.1≤room∧(0≤r.1→((x.2.2.2.2.1.length<4000000∧∀ e0∈x.2.2.2.2.1,(e0.1.length<4000000)∧(e0.2.1.length<4000000)∧(e0.2.2.1.length<4000000))∧(x.2.2.2.2.2.1.length<4000000∧∀ e0∈x.2.2.2.2.2.1,(e0.1.length<4000000)∧(e0.2.1.length<4000000)∧(e0.2.2.1.length<4000000)))∧(q188 x:Int)≤4+32 * (room - r.1))):=by
 have hm:=q28
 unfold F_5
 dsimp only
 have hf0:=hf.2.2.2.2.1
 refine Ret.bind (q485 hN x.2.2.2.2.1 room ⟨by omega,by omega⟩ hf0 ()) ?_
 rintro ⟨r0,v0⟩ ⟨a0,b0⟩
 dsimp only at a0 b0 ⊢
 refine Ret.ifd ?_ ?_ <;> intro g0
 ·exact Ret.ret ⟨by show (-1:Int)≤room; omega,fun h=>absurd h (by decide)⟩
 have hf1:=hf.2.2.2.2.2.1
 refine Ret.bind (q485 hN x.2.2.2.2.2.1 r0 ⟨by omega,by omega⟩ hf1 ()) ?_
 rintro ⟨r1,v1⟩ ⟨a1,b1⟩
 dsimp only at a1 b1 ⊢
 refine Ret.ifd ?_ ?_ <;> intro g1
 ·exact Ret.ret ⟨by show (-1:Int)≤room; omega,fun h=>absurd h (by decide)⟩
 have c0:=(b0 (by omega)).2
 have c1:=(b1 (by omega)).2
 exact Ret.ret ⟨by show r1≤room; omega,fun _=>⟨⟨(b0 (by omega)).1,(b1 (by omega)).1⟩,by simp only [q188]; show _≤4+32 * (room - r1); omega⟩⟩
theorem q801 {N:Nat} (hN:4000000≤N) (x:List DArc) (room:Int) (h:0≤room∧room≤1048576) (hf:((.slice TArc):Ty).fits x) (u:Unit):Ret (F_6 N (x,room,u)) (fun r=>r.1≤room∧(0≤r.1→(x.length<4000000∧∀ e0∈x,(e0.2.2.2.2.1.length<4000000∧∀ e1∈e0.2.2.2.2.1,(e1.1.length<4000000)∧(e1.2.1.length<4000000)∧(e1.2.2.1.length<4000000))∧(e0.2.2.2.2.2.1.length<4000000∧∀ e1∈e0.2.2.2.2.2.1,(e1.1.length<4000000)∧(e1.2.1.length<4000000)∧(e1.2.2.1.length<4000000)))∧(q279 x:Int)≤32 * (room - r.1))):=by
 have hm:=q28
 unfold F_6
 have hl:=hf.1
 dsimp only
 rw [wrapI (n:=room - (x.length:Int)) (by omega) (by omega)]
 refine Ret.ifd ?_ ?_ <;> intro h1
 ·exact Ret.ret ⟨by show (-1:Int)≤room; omega,fun h=>absurd h (by decide)⟩
 refine Ret.upM 0 x.length (fun i r _=>0≤r∧r≤room - (x.length:Int)∧(∀ j,j<i→∀ h:j<x.length,(x[j].2.2.2.2.1.length<4000000∧∀ e0∈x[j].2.2.2.2.1,(e0.1.length<4000000)∧(e0.2.1.length<4000000)∧(e0.2.2.1.length<4000000))∧(x[j].2.2.2.2.2.1.length<4000000∧∀ e0∈x[j].2.2.2.2.2.1,(e0.1.length<4000000)∧(e0.2.1.length<4000000)∧(e0.2.2.1.length<4000000)))∧((((x.take i).map fun e=>q188 e).sum:Nat):Int)≤32 * (i:Int)+32 * (room - (x.length:Int) - r)) (by omega) (by omega) (by omega) ⟨by omega,by omega,q17,by simp⟩ ?_ ?_
 ·rintro i r t next _ hi ⟨hr0,hr,hI,hS⟩ hn
  have hfi:=hf.2 _ (List.getElem_mem hi)
  have hts:=q43 (fun e=>q188 e) hi
  dsimp only at hts ⊢
  refine Ret.must ?_ ?_
  ·omega
  refine Ret.atN hi (Ret.bind (sc_Arc hN x[i] r ⟨hr0,by omega⟩ hfi ()) ?_)
  rintro ⟨r2,v⟩ ⟨h2,h3⟩
  dsimp only at h2 h3 ⊢
  refine Ret.ifd ?_ ?_ <;> intro h4
  ·exact Ret.ret ⟨by show (-1:Int)≤room; omega,fun h=>absurd h (by decide)⟩
  ·obtain ⟨h5,h6⟩:=h3 (by omega)
   exact hn _ _ ⟨by omega,by omega,q9 hI fun _=>h5,by rw [hts]; omega⟩
 ·rintro r t next ⟨hr0,hr,hI,hS⟩
  rw [List.take_length] at hS
  dsimp only
  refine Ret.mustN ?_ (Ret.ret ⟨by show r≤room; omega,fun _=>⟨⟨by omega,q10.2 fun j hj=>hI j hj hj⟩,?_⟩⟩)
  ·omega
  ·unfold q279; show _≤32 * (room - r); omega
theorem q796 {N:Nat} (hN:4000000≤N) (x:DCell) (room:Int) (h:0≤room∧room≤1048576) (hf:(TCell:Ty).fits x) (u:Unit):Ret (F_7 N (x,room,u)) (fun r=>r.1≤room∧(0≤r.1→((x.1.size<4000000)∧(x.2.2.1.length<4000000∧∀ e0∈x.2.2.1,(e0.1.size<4000000))∧(x.2.2.2.1.length<4000000∧∀ e0∈x.2.2.2.1,(e0.2.2.2.2.1.length<4000000∧∀ e1∈e0.2.2.2.2.1,(e1.1.length<4000000)∧(e1.2.1.length<4000000)∧(e1.2.2.1.length<4000000))∧(e0.2.2.2.2.2.1.length<4000000∧∀ e1∈e0.2.2.2.2.2.1,(e1.1.length<4000000)∧(e1.2.1.length<4000000)∧(e1.2.2.1.length<4000000)))∧(x.2.2.2.2.1.length<4000000))∧(q128 x:Int)≤4+32 * (room - r.1))):=by
 have hm:=q28
 unfold F_7
 dsimp only
 have hf0:=hf.1
 rw [wrapI (n:=room - (x.1.size:Int)) (by omega) (by omega)]
 refine Ret.ifd ?_ ?_ <;> intro g0
 ·exact Ret.ret ⟨by show (-1:Int)≤room; omega,fun h=>absurd h (by decide)⟩
 have hf1:=hf.2.2.1
 refine Ret.bind (q805 hN x.2.2.1 (room - (x.1.size:Int)) ⟨by omega,by omega⟩ hf1 ()) ?_
 rintro ⟨r1,v1⟩ ⟨a1,b1⟩
 dsimp only at a1 b1 ⊢
 refine Ret.ifd ?_ ?_ <;> intro g1
 ·exact Ret.ret ⟨by show (-1:Int)≤room; omega,fun h=>absurd h (by decide)⟩
 have hf2:=hf.2.2.2.1
 refine Ret.bind (q801 hN x.2.2.2.1 r1 ⟨by omega,by omega⟩ hf2 ()) ?_
 rintro ⟨r2,v2⟩ ⟨a2,b2⟩
 dsimp only at a2 b2 ⊢
 refine Ret.ifd ?_ ?_ <;> intro g2
 ·exact Ret.ret ⟨by show (-1:Int)≤room; omega,fun h=>absurd h (by decide)⟩
 have hf3:=hf.2.2.2.2.1
 refine Ret.bind (q74 hN x.2.2.2.2.1 r2 ⟨by omega,by omega⟩ hf3 ()) ?_
 rintro ⟨r3,v3⟩ ⟨a3,b3⟩
 dsimp only at a3 b3 ⊢
 refine Ret.ifd ?_ ?_ <;> intro g3
 ·exact Ret.ret ⟨by show (-1:Int)≤room; omega,fun h=>absurd h (by decide)⟩
 have c1:=(b1 (by omega)).2
 have c2:=(b2 (by omega)).2
 have c3:=(b3 (by omega)).2
 exact Ret.ret ⟨by show r3≤room; omega,fun _=>⟨⟨(by omega),(b1 (by omega)).1,(b2 (by omega)).1,(b3 (by omega)).1⟩,by simp only [q128]; show _≤4+32 * (room - r3); omega⟩⟩
theorem q763 {N:Nat} (hN:4000000≤N) (x:List DCell) (room:Int) (h:0≤room∧room≤1048576) (hf:((.slice TCell):Ty).fits x) (u:Unit):Ret (F_8 N (x,room,u)) (fun r=>r.1≤room∧(0≤r.1→(x.length<4000000∧∀ e0∈x,(e0.1.size<4000000)∧(e0.2.2.1.length<4000000∧∀ e1∈e0.2.2.1,(e1.1.size<4000000))∧(e0.2.2.2.1.length<4000000∧∀ e1∈e0.2.2.2.1,(e1.2.2.2.2.1.length<4000000∧∀ e2∈e1.2.2.2.2.1,(e2.1.length<4000000)∧(e2.2.1.length<4000000)∧(e2.2.2.1.length<4000000))∧(e1.2.2.2.2.2.1.length<4000000∧∀ e2∈e1.2.2.2.2.2.1,(e2.1.length<4000000)∧(e2.2.1.length<4000000)∧(e2.2.2.1.length<4000000)))∧(e0.2.2.2.2.1.length<4000000))∧(q145 x:Int)≤32 * (room - r.1))):=by
 have hm:=q28
 unfold F_8
 have hl:=hf.1
 dsimp only
 rw [wrapI (n:=room - (x.length:Int)) (by omega) (by omega)]
 refine Ret.ifd ?_ ?_ <;> intro h1
 ·exact Ret.ret ⟨by show (-1:Int)≤room; omega,fun h=>absurd h (by decide)⟩
 refine Ret.upM 0 x.length (fun i r _=>0≤r∧r≤room - (x.length:Int)∧(∀ j,j<i→∀ h:j<x.length,(x[j].1.size<4000000)∧(x[j].2.2.1.length<4000000∧∀ e0∈x[j].2.2.1,(e0.1.size<4000000))∧(x[j].2.2.2.1.length<4000000∧∀ e0∈x[j].2.2.2.1,(e0.2.2.2.2.1.length<4000000∧∀ e1∈e0.2.2.2.2.1,(e1.1.length<4000000)∧(e1.2.1.length<4000000)∧(e1.2.2.1.length<4000000))∧(e0.2.2.2.2.2.1.length<4000000∧∀ e1∈e0.2.2.2.2.2.1,(e1.1.length<4000000)∧(e1.2.1.length<4000000)∧(e1.2.2.1.length<4000000)))∧(x[j].2.2.2.2.1.length<4000000))∧((((x.take i).map fun e=>q128 e).sum:Nat):Int)≤32 * (i:Int)+32 * (room - (x.length:Int) - r)) (by omega) (by omega) (by omega) ⟨by omega,by omega,q17,by simp⟩ ?_ ?_
 ·rintro i r t next _ hi ⟨hr0,hr,hI,hS⟩ hn
  have hfi:=hf.2 _ (List.getElem_mem hi)
  have hts:=q43 (fun e=>q128 e) hi
  dsimp only at hts ⊢
  refine Ret.must ?_ ?_
  ·omega
  refine Ret.atN hi (Ret.bind (q796 hN x[i] r ⟨hr0,by omega⟩ hfi ()) ?_)
  rintro ⟨r2,v⟩ ⟨h2,h3⟩
  dsimp only at h2 h3 ⊢
  refine Ret.ifd ?_ ?_ <;> intro h4
  ·exact Ret.ret ⟨by show (-1:Int)≤room; omega,fun h=>absurd h (by decide)⟩
  ·obtain ⟨h5,h6⟩:=h3 (by omega)
   exact hn _ _ ⟨by omega,by omega,q9 hI fun _=>h5,by rw [hts]; omega⟩
 ·rintro r t next ⟨hr0,hr,hI,hS⟩
  rw [List.take_length] at hS
  dsimp only
  refine Ret.mustN ?_ (Ret.ret ⟨by show r≤room; omega,fun _=>⟨⟨by omega,q10.2 fun j hj=>hI j hj hj⟩,?_⟩⟩)
  ·omega
  ·unfold q145; show _≤32 * (room - r); omega
theorem q660 {N:Nat} (hN:4000000≤N) (x:DLibrary) (room:Int) (h:0≤room∧room≤1048576) (hf:(TLibrary:Ty).fits x) (u:Unit):Ret (F_9 N (x,room,u)) (fun r=>r.1≤room∧(0≤r.1→((x.1.length<4000000∧∀ e0∈x.1,(e0.1.size<4000000)∧(e0.2.2.1.length<4000000∧∀ e1∈e0.2.2.1,(e1.1.size<4000000))∧(e0.2.2.2.1.length<4000000∧∀ e1∈e0.2.2.2.1,(e1.2.2.2.2.1.length<4000000∧∀ e2∈e1.2.2.2.2.1,(e2.1.length<4000000)∧(e2.2.1.length<4000000)∧(e2.2.2.1.length<4000000))∧(e1.2.2.2.2.2.1.length<4000000∧∀ e2∈e1.2.2.2.2.2.1,(e2.1.length<4000000)∧(e2.2.1.length<4000000)∧(e2.2.2.1.length<4000000)))∧(e0.2.2.2.2.1.length<4000000)))∧(q121 x:Int)≤0+32 * (room - r.1))):=by
 have hm:=q28
 unfold F_9
 dsimp only
 have hf0:=hf.1
 refine Ret.bind (q763 hN x.1 room ⟨by omega,by omega⟩ hf0 ()) ?_
 rintro ⟨r0,v0⟩ ⟨a0,b0⟩
 dsimp only at a0 b0 ⊢
 refine Ret.ifd ?_ ?_ <;> intro g0
 ·exact Ret.ret ⟨by show (-1:Int)≤room; omega,fun h=>absurd h (by decide)⟩
 have c0:=(b0 (by omega)).2
 exact Ret.ret ⟨by show r0≤room; omega,fun _=>⟨(b0 (by omega)).1,by simp only [q121]; show _≤0+32 * (room - r0); omega⟩⟩
theorem q589 {N:Nat} (hN:4000000≤N) (x:DInstance) (room:Int) (h:0≤room∧room≤1048576) (hf:(TInstance:Ty).fits x) (u:Unit):Ret (F_10 N (x,room,u)) (fun r=>r.1≤room∧(0≤r.1→((x.1.size<4000000)∧(x.2.2.1.length<4000000))∧(q61 x:Int)≤2+32 * (room - r.1))):=by
 have hm:=q28
 unfold F_10
 dsimp only
 have hf0:=hf.1
 rw [wrapI (n:=room - (x.1.size:Int)) (by omega) (by omega)]
 refine Ret.ifd ?_ ?_ <;> intro g0
 ·exact Ret.ret ⟨by show (-1:Int)≤room; omega,fun h=>absurd h (by decide)⟩
 have hf1:=hf.2.2.1
 refine Ret.bind (q74 hN x.2.2.1 (room - (x.1.size:Int)) ⟨by omega,by omega⟩ hf1 ()) ?_
 rintro ⟨r1,v1⟩ ⟨a1,b1⟩
 dsimp only at a1 b1 ⊢
 refine Ret.ifd ?_ ?_ <;> intro g1
 ·exact Ret.ret ⟨by show (-1:Int)≤room; omega,fun h=>absurd h (by decide)⟩
 have c1:=(b1 (by omega)).2
 exact Ret.ret ⟨by show r1≤room; omega,fun _=>⟨⟨(by omega),(b1 (by omega)).1⟩,by simp only [q61]; show _≤2+32 * (room - r1); omega⟩⟩
theorem q514 {N:Nat} (hN:4000000≤N) (x:List DInstance) (room:Int) (h:0≤room∧room≤1048576) (hf:((.slice TInstance):Ty).fits x) (u:Unit):Ret (F_11 N (x,room,u)) (fun r=>r.1≤room∧(0≤r.1→(x.length<4000000∧∀ e0∈x,(e0.1.size<4000000)∧(e0.2.2.1.length<4000000))∧(q77 x:Int)≤32 * (room - r.1))):=by
 have hm:=q28
 unfold F_11
 have hl:=hf.1
 dsimp only
 rw [wrapI (n:=room - (x.length:Int)) (by omega) (by omega)]
 refine Ret.ifd ?_ ?_ <;> intro h1
 ·exact Ret.ret ⟨by show (-1:Int)≤room; omega,fun h=>absurd h (by decide)⟩
 refine Ret.upM 0 x.length (fun i r _=>0≤r∧r≤room - (x.length:Int)∧(∀ j,j<i→∀ h:j<x.length,(x[j].1.size<4000000)∧(x[j].2.2.1.length<4000000))∧((((x.take i).map fun e=>q61 e).sum:Nat):Int)≤32 * (i:Int)+32 * (room - (x.length:Int) - r)) (by omega) (by omega) (by omega) ⟨by omega,by omega,q17,by simp⟩ ?_ ?_
 ·rintro i r t next _ hi ⟨hr0,hr,hI,hS⟩ hn
  have hfi:=hf.2 _ (List.getElem_mem hi)
  have hts:=q43 (fun e=>q61 e) hi
  dsimp only at hts ⊢
  refine Ret.must ?_ ?_
  ·omega
  refine Ret.atN hi (Ret.bind (q589 hN x[i] r ⟨hr0,by omega⟩ hfi ()) ?_)
  rintro ⟨r2,v⟩ ⟨h2,h3⟩
  dsimp only at h2 h3 ⊢
  refine Ret.ifd ?_ ?_ <;> intro h4
  ·exact Ret.ret ⟨by show (-1:Int)≤room; omega,fun h=>absurd h (by decide)⟩
  ·obtain ⟨h5,h6⟩:=h3 (by omega)
   exact hn _ _ ⟨by omega,by omega,q9 hI fun _=>h5,by rw [hts]; omega⟩
 ·rintro r t next ⟨hr0,hr,hI,hS⟩
  rw [List.take_length] at hS
  dsimp only
  refine Ret.mustN ?_ (Ret.ret ⟨by show r≤room; omega,fun _=>⟨⟨by omega,q10.2 fun j hj=>hI j hj hj⟩,?_⟩⟩)
  ·omega
  ·unfold q77; show _≤32 * (room - r); omega
theorem q634 {N:Nat} (hN:4000000≤N) (x:List (ByteArray)) (room:Int) (h:0≤room∧room≤1048576) (hf:((.slice (.str)):Ty).fits x) (u:Unit):Ret (F_12 N (x,room,u)) (fun r=>r.1≤room∧(0≤r.1→(x.length<4000000∧∀ e0∈x,e0.size<4000000)∧(q105 x:Int)≤32 * (room - r.1))):=by
 have hm:=q28
 unfold F_12
 have hl:=hf.1
 dsimp only
 rw [wrapI (n:=room - (x.length:Int)) (by omega) (by omega)]
 refine Ret.ifd ?_ ?_ <;> intro h1
 ·exact Ret.ret ⟨by show (-1:Int)≤room; omega,fun h=>absurd h (by decide)⟩
 refine Ret.upM 0 x.length (fun i r _=>0≤r∧r≤room - (x.length:Int)∧(∀ j,j<i→∀ h:j<x.length,x[j].size<4000000)∧((((x.take i).map fun e=>1).sum:Nat):Int)≤32 * (i:Int)+32 * (room - (x.length:Int) - r)) (by omega) (by omega) (by omega) ⟨by omega,by omega,q17,by simp⟩ ?_ ?_
 ·rintro i r t next _ hi ⟨hr0,hr,hI,hS⟩ hn
  have hfi:=hf.2 _ (List.getElem_mem hi)
  have hts:=q43 (fun e=>1) hi
  dsimp only at hts ⊢
  refine Ret.must ?_ ?_
  ·omega
  refine Ret.atN hi ?_
  have hfi:x[i].size≤maxLen:=hfi
  rw [wrapI (n:=r - (x[i].size:Int)) (by omega) (by omega)]
  refine Ret.ifd ?_ ?_ <;> intro h2
  ·exact Ret.ret ⟨by show (-1:Int)≤room; omega,fun h=>absurd h (by decide)⟩
  ·exact hn _ _ ⟨by omega,by omega,q9 hI fun _=>by omega,by rw [hts]; omega⟩
 ·rintro r t next ⟨hr0,hr,hI,hS⟩
  rw [List.take_length] at hS
  dsimp only
  refine Ret.mustN ?_ (Ret.ret ⟨by show r≤room; omega,fun _=>⟨⟨by omega,q10.2 fun j hj=>hI j hj hj⟩,?_⟩⟩)
  ·omega
  ·unfold q105; show _≤32 * (room - r); omega
theorem q790 {N:Nat} (hN:4000000≤N) (x:DPort) (room:Int) (h:0≤room∧room≤1048576) (hf:(TPort:Ty).fits x) (u:Unit):Ret (F_13 N (x,room,u)) (fun r=>r.1≤room∧(0≤r.1→((x.1.size<4000000))∧(q132 x:Int)≤3+32 * (room - r.1))):=by
 have hm:=q28
 unfold F_13
 dsimp only
 have hf0:=hf.1
 rw [wrapI (n:=room - (x.1.size:Int)) (by omega) (by omega)]
 refine Ret.ifd ?_ ?_ <;> intro g0
 ·exact Ret.ret ⟨by show (-1:Int)≤room; omega,fun h=>absurd h (by decide)⟩
 exact Ret.ret ⟨by show (room - (x.1.size:Int))≤room; omega,fun _=>⟨(by omega),by simp only [q132]; show _≤3+32 * (room - (room - (x.1.size:Int))); omega⟩⟩
theorem q749 {N:Nat} (hN:4000000≤N) (x:List DPort) (room:Int) (h:0≤room∧room≤1048576) (hf:((.slice TPort):Ty).fits x) (u:Unit):Ret (F_14 N (x,room,u)) (fun r=>r.1≤room∧(0≤r.1→(x.length<4000000∧∀ e0∈x,(e0.1.size<4000000))∧(q149 x:Int)≤32 * (room - r.1))):=by
 have hm:=q28
 unfold F_14
 have hl:=hf.1
 dsimp only
 rw [wrapI (n:=room - (x.length:Int)) (by omega) (by omega)]
 refine Ret.ifd ?_ ?_ <;> intro h1
 ·exact Ret.ret ⟨by show (-1:Int)≤room; omega,fun h=>absurd h (by decide)⟩
 refine Ret.upM 0 x.length (fun i r _=>0≤r∧r≤room - (x.length:Int)∧(∀ j,j<i→∀ h:j<x.length,(x[j].1.size<4000000))∧((((x.take i).map fun e=>q132 e).sum:Nat):Int)≤32 * (i:Int)+32 * (room - (x.length:Int) - r)) (by omega) (by omega) (by omega) ⟨by omega,by omega,q17,by simp⟩ ?_ ?_
 ·rintro i r t next _ hi ⟨hr0,hr,hI,hS⟩ hn
  have hfi:=hf.2 _ (List.getElem_mem hi)
  have hts:=q43 (fun e=>q132 e) hi
  dsimp only at hts ⊢
  refine Ret.must ?_ ?_
  ·omega
  refine Ret.atN hi (Ret.bind (q790 hN x[i] r ⟨hr0,by omega⟩ hfi ()) ?_)
  rintro ⟨r2,v⟩ ⟨h2,h3⟩
  dsimp only at h2 h3 ⊢
  refine Ret.ifd ?_ ?_ <;> intro h4
  ·exact Ret.ret ⟨by show (-1:Int)≤room; omega,fun h=>absurd h (by decide)⟩
  ·obtain ⟨h5,h6⟩:=h3 (by omega)
   exact hn _ _ ⟨by omega,by omega,q9 hI fun _=>h5,by rw [hts]; omega⟩
 ·rintro r t next ⟨hr0,hr,hI,hS⟩
  rw [List.take_length] at hS
  dsimp only
  refine Ret.mustN ?_ (Ret.ret ⟨by show r≤room; omega,fun _=>⟨⟨by omega,q10.2 fun j hj=>hI j hj hj⟩,?_⟩⟩)
  ·omega
  ·unfold q149; show _≤32 * (room - r); omega
theorem q677 {N:Nat} (hN:4000000≤N) (x:DDesign) (room:Int) (h:0≤room∧room≤1048576) (hf:(TDesign:Ty).fits x) (u:Unit):Ret (F_15 N (x,room,u)) (fun r=>r.1≤room∧(0≤r.1→((x.1.length<4000000∧∀ e0∈x.1,(e0.1.size<4000000)∧(e0.2.2.1.length<4000000))∧(x.2.1.length<4000000∧∀ e0∈x.2.1,e0.size<4000000)∧(x.2.2.1.length<4000000∧∀ e0∈x.2.2.1,(e0.1.size<4000000)))∧(q141 x:Int)≤0+32 * (room - r.1))):=by
 have hm:=q28
 unfold F_15
 dsimp only
 have hf0:=hf.1
 refine Ret.bind (q514 hN x.1 room ⟨by omega,by omega⟩ hf0 ()) ?_
 rintro ⟨r0,v0⟩ ⟨a0,b0⟩
 dsimp only at a0 b0 ⊢
 refine Ret.ifd ?_ ?_ <;> intro g0
 ·exact Ret.ret ⟨by show (-1:Int)≤room; omega,fun h=>absurd h (by decide)⟩
 have hf1:=hf.2.1
 refine Ret.bind (q634 hN x.2.1 r0 ⟨by omega,by omega⟩ hf1 ()) ?_
 rintro ⟨r1,v1⟩ ⟨a1,b1⟩
 dsimp only at a1 b1 ⊢
 refine Ret.ifd ?_ ?_ <;> intro g1
 ·exact Ret.ret ⟨by show (-1:Int)≤room; omega,fun h=>absurd h (by decide)⟩
 have hf2:=hf.2.2.1
 refine Ret.bind (q749 hN x.2.2.1 r1 ⟨by omega,by omega⟩ hf2 ()) ?_
 rintro ⟨r2,v2⟩ ⟨a2,b2⟩
 dsimp only at a2 b2 ⊢
 refine Ret.ifd ?_ ?_ <;> intro g2
 ·exact Ret.ret ⟨by show (-1:Int)≤room; omega,fun h=>absurd h (by decide)⟩
 have c0:=(b0 (by omega)).2
 have c1:=(b1 (by omega)).2
 have c2:=(b2 (by omega)).2
 exact Ret.ret ⟨by show r2≤room; omega,fun _=>⟨⟨(b0 (by omega)).1,(b1 (by omega)).1,(b2 (by omega)).1⟩,by simp only [q141]; show _≤0+32 * (room - r2); omega⟩⟩
theorem q799 {N:Nat} (hN:4000000≤N) (x:DWire) (room:Int) (h:0≤room∧room≤1048576) (hf:(TWire:Ty).fits x) (u:Unit):Ret (F_16 N (x,room,u)) (fun r=>r.1≤room∧(0≤r.1→((x.1.length<4000000)∧(x.2.1.length<4000000)∧(x.2.2.1.length<4000000)∧(x.2.2.2.1.length<4000000))∧(q130 x:Int)≤0+32 * (room - r.1))):=by
 have hm:=q28
 unfold F_16
 dsimp only
 have hf0:=hf.1
 refine Ret.bind (q74 hN x.1 room ⟨by omega,by omega⟩ hf0 ()) ?_
 rintro ⟨r0,v0⟩ ⟨a0,b0⟩
 dsimp only at a0 b0 ⊢
 refine Ret.ifd ?_ ?_ <;> intro g0
 ·exact Ret.ret ⟨by show (-1:Int)≤room; omega,fun h=>absurd h (by decide)⟩
 have hf1:=hf.2.1
 refine Ret.bind (q74 hN x.2.1 r0 ⟨by omega,by omega⟩ hf1 ()) ?_
 rintro ⟨r1,v1⟩ ⟨a1,b1⟩
 dsimp only at a1 b1 ⊢
 refine Ret.ifd ?_ ?_ <;> intro g1
 ·exact Ret.ret ⟨by show (-1:Int)≤room; omega,fun h=>absurd h (by decide)⟩
 have hf2:=hf.2.2.1
 refine Ret.bind (q74 hN x.2.2.1 r1 ⟨by omega,by omega⟩ hf2 ()) ?_
 rintro ⟨r2,v2⟩ ⟨a2,b2⟩
 dsimp only at a2 b2 ⊢
 refine Ret.ifd ?_ ?_ <;> intro g2
 ·exact Ret.ret ⟨by show (-1:Int)≤room; omega,fun h=>absurd h (by decide)⟩
 have hf3:=hf.2.2.2.1
 refine Ret.bind (q74 hN x.2.2.2.1 r2 ⟨by omega,by omega⟩ hf3 ()) ?_
 rintro ⟨r3,v3⟩ ⟨a3,b3⟩
 dsimp only at a3 b3 ⊢
 refine Ret.ifd ?_ ?_ <;> intro g3
 ·exact Ret.ret ⟨by show (-1:Int)≤room; omega,fun h=>absurd h (by decide)⟩
 have c0:=(b0 (by omega)).2
 have c1:=(b1 (by omega)).2
 have c2:=(b2 (by omega)).2
 have c3:=(b3 (by omega)).2
 exact Ret.ret ⟨by show r3≤room; omega,fun _=>⟨⟨(b0 (by omega)).1,(b1 (by omega)).1,(b2 (by omega)).1,(b3 (by omega)).1⟩,by simp only [q130]; show _≤0+32 * (room - r3); omega⟩⟩
theorem q770 {N:Nat} (hN:4000000≤N) (x:List DWire) (room:Int) (h:0≤room∧room≤1048576) (hf:((.slice TWire):Ty).fits x) (u:Unit):Ret (F_17 N (x,room,u)) (fun r=>r.1≤room∧(0≤r.1→(x.length<4000000∧∀ e0∈x,(e0.1.length<4000000)∧(e0.2.1.length<4000000)∧(e0.2.2.1.length<4000000)∧(e0.2.2.2.1.length<4000000))∧(q157 x:Int)≤32 * (room - r.1))):=by
 have hm:=q28
 unfold F_17
 have hl:=hf.1
 dsimp only
 rw [wrapI (n:=room - (x.length:Int)) (by omega) (by omega)]
 refine Ret.ifd ?_ ?_ <;> intro h1
 ·exact Ret.ret ⟨by show (-1:Int)≤room; omega,fun h=>absurd h (by decide)⟩
 refine Ret.upM 0 x.length (fun i r _=>0≤r∧r≤room - (x.length:Int)∧(∀ j,j<i→∀ h:j<x.length,(x[j].1.length<4000000)∧(x[j].2.1.length<4000000)∧(x[j].2.2.1.length<4000000)∧(x[j].2.2.2.1.length<4000000))∧((((x.take i).map fun e=>q130 e).sum:Nat):Int)≤32 * (i:Int)+32 * (room - (x.length:Int) - r)) (by omega) (by omega) (by omega) ⟨by omega,by omega,q17,by simp⟩ ?_ ?_
 ·rintro i r t next _ hi ⟨hr0,hr,hI,hS⟩ hn
  have hfi:=hf.2 _ (List.getElem_mem hi)
  have hts:=q43 (fun e=>q130 e) hi
  dsimp only at hts ⊢
  refine Ret.must ?_ ?_
  ·omega
  refine Ret.atN hi (Ret.bind (q799 hN x[i] r ⟨hr0,by omega⟩ hfi ()) ?_)
  rintro ⟨r2,v⟩ ⟨h2,h3⟩
  dsimp only at h2 h3 ⊢
  refine Ret.ifd ?_ ?_ <;> intro h4
  ·exact Ret.ret ⟨by show (-1:Int)≤room; omega,fun h=>absurd h (by decide)⟩
  ·obtain ⟨h5,h6⟩:=h3 (by omega)
   exact hn _ _ ⟨by omega,by omega,q9 hI fun _=>h5,by rw [hts]; omega⟩
 ·rintro r t next ⟨hr0,hr,hI,hS⟩
  rw [List.take_length] at hS
  dsimp only
  refine Ret.mustN ?_ (Ret.ret ⟨by show r≤room; omega,fun _=>⟨⟨by omega,q10.2 fun j hj=>hI j hj hj⟩,?_⟩⟩)
  ·omega
  ·unfold q157; show _≤32 * (room - r); omega
theorem q774 {N:Nat} (hN:4000000≤N) (x:DBlock) (room:Int) (h:0≤room∧room≤1048576) (hf:(TBlock:Ty).fits x) (u:Unit):Ret (F_18 N (x,room,u)) (fun r=>r.1≤room∧(0≤r.1→(((x.1.1.length<4000000∧∀ e0∈x.1.1,(e0.1.size<4000000)∧(e0.2.2.1.length<4000000∧∀ e1∈e0.2.2.1,(e1.1.size<4000000))∧(e0.2.2.2.1.length<4000000∧∀ e1∈e0.2.2.2.1,(e1.2.2.2.2.1.length<4000000∧∀ e2∈e1.2.2.2.2.1,(e2.1.length<4000000)∧(e2.2.1.length<4000000)∧(e2.2.2.1.length<4000000))∧(e1.2.2.2.2.2.1.length<4000000∧∀ e2∈e1.2.2.2.2.2.1,(e2.1.length<4000000)∧(e2.2.1.length<4000000)∧(e2.2.2.1.length<4000000)))∧(e0.2.2.2.2.1.length<4000000)))∧((x.2.1.1.length<4000000∧∀ e0∈x.2.1.1,(e0.1.size<4000000)∧(e0.2.2.1.length<4000000))∧(x.2.1.2.1.length<4000000∧∀ e0∈x.2.1.2.1,e0.size<4000000)∧(x.2.1.2.2.1.length<4000000∧∀ e0∈x.2.1.2.2.1,(e0.1.size<4000000)))∧(x.2.2.1.length<4000000∧∀ e0∈x.2.2.1,(e0.1.length<4000000)∧(e0.2.1.length<4000000)∧(e0.2.2.1.length<4000000)∧(e0.2.2.2.1.length<4000000)))∧(q179 x:Int)≤0+32 * (room - r.1))):=by
 have hm:=q28
 unfold F_18
 dsimp only
 have hf0:=hf.1
 refine Ret.bind (q660 hN x.1 room ⟨by omega,by omega⟩ hf0 ()) ?_
 rintro ⟨r0,v0⟩ ⟨a0,b0⟩
 dsimp only at a0 b0 ⊢
 refine Ret.ifd ?_ ?_ <;> intro g0
 ·exact Ret.ret ⟨by show (-1:Int)≤room; omega,fun h=>absurd h (by decide)⟩
 have hf1:=hf.2.1
 refine Ret.bind (q677 hN x.2.1 r0 ⟨by omega,by omega⟩ hf1 ()) ?_
 rintro ⟨r1,v1⟩ ⟨a1,b1⟩
 dsimp only at a1 b1 ⊢
 refine Ret.ifd ?_ ?_ <;> intro g1
 ·exact Ret.ret ⟨by show (-1:Int)≤room; omega,fun h=>absurd h (by decide)⟩
 have hf2:=hf.2.2.1
 refine Ret.bind (q770 hN x.2.2.1 r1 ⟨by omega,by omega⟩ hf2 ()) ?_
 rintro ⟨r2,v2⟩ ⟨a2,b2⟩
 dsimp only at a2 b2 ⊢
 refine Ret.ifd ?_ ?_ <;> intro g2
 ·exact Ret.ret ⟨by show (-1:Int)≤room; omega,fun h=>absurd h (by decide)⟩
 have c0:=(b0 (by omega)).2
 have c1:=(b1 (by omega)).2
 have c2:=(b2 (by omega)).2
 exact Ret.ret ⟨by show r2≤room; omega,fun _=>⟨⟨(b0 (by omega)).1,(b1 (by omega)).1,(b2 (by omega)).1⟩,by simp only [q179]; show _≤0+32 * (room - r2); omega⟩⟩
theorem q668 {N:Nat} (hN:4000000≤N) (x:DCorner) (room:Int) (h:0≤room∧room≤1048576) (hf:(TCorner:Ty).fits x) (u:Unit):Ret (F_19 N (x,room,u)) (fun r=>r.1≤room∧(0≤r.1→((x.1.size<4000000))∧(q305 x:Int)≤5+32 * (room - r.1))):=by
 have hm:=q28
 unfold F_19
 dsimp only
 have hf0:=hf.1
 rw [wrapI (n:=room - (x.1.size:Int)) (by omega) (by omega)]
 refine Ret.ifd ?_ ?_ <;> intro g0
 ·exact Ret.ret ⟨by show (-1:Int)≤room; omega,fun h=>absurd h (by decide)⟩
 exact Ret.ret ⟨by show (room - (x.1.size:Int))≤room; omega,fun _=>⟨(by omega),by simp only [q305]; show _≤5+32 * (room - (room - (x.1.size:Int))); omega⟩⟩
theorem q632 {N:Nat} (hN:4000000≤N) (x:List DSource) (room:Int) (h:0≤room∧room≤1048576) (hf:((.slice TSource):Ty).fits x) (u:Unit):Ret (F_20 N (x,room,u)) (fun r=>r.1≤room∧(0≤r.1→(x.length<4000000)∧(q87 x:Int)≤32 * (room - r.1))):=by
 have hm:=q28
 unfold F_20
 have hl:=hf.1
 dsimp only
 rw [wrapI (n:=room - (x.length:Int)) (by omega) (by omega)]
 refine Ret.ifd ?_ ?_ <;> intro h1
 ·exact Ret.ret ⟨by show (-1:Int)≤room; omega,fun h=>absurd h (by decide)⟩
 ·have hc:q87 x≤32 * x.length:=by
   unfold q87
   refine q418 (fun e _=>?_)
   simp only [q142,q133,q133]; omega
  exact Ret.ret ⟨by show room - (x.length:Int)≤room; omega,fun _=>⟨by omega,by show _≤32 * (room - (room - (x.length:Int))); omega⟩⟩
theorem sc_Job {N:Nat} (hN:4000000≤N) (x:DJob) (room:Int) (h:0≤room∧room≤1048576) (hf:(TJob:Ty).fits x) (u:Unit):Ret (F_21 N (x,room,u)) (fun r=>r.1≤room∧(0≤r.1→((((x.1.1.1.length<4000000∧∀ e0∈x.1.1.1,(e0.1.size<4000000)∧(e0.2.2.1.length<4000000∧∀ e1∈e0.2.2.1,(e1.1.size<4000000))∧(e0.2.2.2.1.length<4000000∧∀ e1∈e0.2.2.2.1,(e1.2.2.2.2.1.length<4000000∧∀ e2∈e1.2.2.2.2.1,(e2.1.length<4000000)∧(e2.2.1.length<4000000)∧(e2.2.2.1.length<4000000))∧(e1.2.2.2.2.2.1.length<4000000∧∀ e2∈e1.2.2.2.2.2.1,(e2.1.length<4000000)∧(e2.2.1.length<4000000)∧(e2.2.2.1.length<4000000)))∧(e0.2.2.2.2.1.length<4000000)))∧((x.1.2.1.1.length<4000000∧∀ e0∈x.1.2.1.1,(e0.1.size<4000000)∧(e0.2.2.1.length<4000000))∧(x.1.2.1.2.1.length<4000000∧∀ e0∈x.1.2.1.2.1,e0.size<4000000)∧(x.1.2.1.2.2.1.length<4000000∧∀ e0∈x.1.2.1.2.2.1,(e0.1.size<4000000)))∧(x.1.2.2.1.length<4000000∧∀ e0∈x.1.2.2.1,(e0.1.length<4000000)∧(e0.2.1.length<4000000)∧(e0.2.2.1.length<4000000)∧(e0.2.2.2.1.length<4000000)))∧((x.2.1.1.size<4000000))∧(x.2.2.1.length<4000000)∧(x.2.2.2.1.length<4000000))∧(q465 x:Int)≤5+32 * (room - r.1))):=by
 have hm:=q28
 unfold F_21
 dsimp only
 have hf0:=hf.1
 refine Ret.bind (q774 hN x.1 room ⟨by omega,by omega⟩ hf0 ()) ?_
 rintro ⟨r0,v0⟩ ⟨a0,b0⟩
 dsimp only at a0 b0 ⊢
 refine Ret.ifd ?_ ?_ <;> intro g0
 ·exact Ret.ret ⟨by show (-1:Int)≤room; omega,fun h=>absurd h (by decide)⟩
 have hf1:=hf.2.1
 refine Ret.bind (q668 hN x.2.1 r0 ⟨by omega,by omega⟩ hf1 ()) ?_
 rintro ⟨r1,v1⟩ ⟨a1,b1⟩
 dsimp only at a1 b1 ⊢
 refine Ret.ifd ?_ ?_ <;> intro g1
 ·exact Ret.ret ⟨by show (-1:Int)≤room; omega,fun h=>absurd h (by decide)⟩
 have hf2:=hf.2.2.1
 refine Ret.bind (q74 hN x.2.2.1 r1 ⟨by omega,by omega⟩ hf2 ()) ?_
 rintro ⟨r2,v2⟩ ⟨a2,b2⟩
 dsimp only at a2 b2 ⊢
 refine Ret.ifd ?_ ?_ <;> intro g2
 ·exact Ret.ret ⟨by show (-1:Int)≤room; omega,fun h=>absurd h (by decide)⟩
 have hf3:=hf.2.2.2.1
 refine Ret.bind (q632 hN x.2.2.2.1 r2 ⟨by omega,by omega⟩ hf3 ()) ?_
 rintro ⟨r3,v3⟩ ⟨a3,b3⟩
 dsimp only at a3 b3 ⊢
 refine Ret.ifd ?_ ?_ <;> intro g3
 ·exact Ret.ret ⟨by show (-1:Int)≤room; omega,fun h=>absurd h (by decide)⟩
 have c0:=(b0 (by omega)).2
 have c1:=(b1 (by omega)).2
 have c2:=(b2 (by omega)).2
 have c3:=(b3 (by omega)).2
 exact Ret.ret ⟨by show r3≤room; omega,fun _=>⟨⟨(b0 (by omega)).1,(b1 (by omega)).1,(b2 (by omega)).1,(b3 (by omega)).1⟩,by simp only [q465]; show _≤5+32 * (room - r3); omega⟩⟩
theorem q696 {N:Nat} (hN:4000000≤N) (x:DPath) (room:Int) (h:0≤room∧room≤1048576) (hf:(TPath:Ty).fits x) (u:Unit):Ret (F_22 N (x,room,u)) (fun r=>r.1≤room∧(0≤r.1→((x.2.1.length<4000000))∧(q330 x:Int)≤2+32 * (room - r.1))):=by
 have hm:=q28
 unfold F_22
 dsimp only
 have hf0:=hf.2.1
 refine Ret.bind (q74 hN x.2.1 room ⟨by omega,by omega⟩ hf0 ()) ?_
 rintro ⟨r0,v0⟩ ⟨a0,b0⟩
 dsimp only at a0 b0 ⊢
 refine Ret.ifd ?_ ?_ <;> intro g0
 ·exact Ret.ret ⟨by show (-1:Int)≤room; omega,fun h=>absurd h (by decide)⟩
 have c0:=(b0 (by omega)).2
 exact Ret.ret ⟨by show r0≤room; omega,fun _=>⟨(b0 (by omega)).1,by simp only [q330]; show _≤2+32 * (room - r0); omega⟩⟩
theorem q795 {N:Nat} (hN:1000000000000≤N) (x:List DPin) (hs:x.length<4000000∧∀ e0∈x,(e0.1.size<4000000)) (k:Int) (h0:0≤k) (hb:k+(q278 x:Nat)≤100000000000):F_261 N x k=some (k+(q278 x:Nat)):=by
 unfold F_261
 have hlen:x.length<4000000:=hs.1
 refine q81 (fun e=>q183 e) hN h0 hb hlen ?_ ?_
 ·intro i hi m next hm hmb hn
  have hse:=hs.2 _ (List.getElem_mem hi)
  simp only [q183] at hmb
  dsimp only [nth]
  refine Ret.must (by omega) ?_
  refine Ret.text hN (by (try simp (disch:=omega) only [wrapI]); omega) fun _=>?_
  refine Ret.atN hi ?_
  refine Ret.atN hi ?_
  refine Ret.atN hi ?_
  refine Ret.atN hi ?_
  refine Ret.next hn ?_
  (try simp (disch:=omega) only [wrapI])
  simp only [q183]
  omega
 ·intro m next
  dsimp only [nth]
  exact Ret.eq (Ret.mustN (by omega) (Ret.ret rfl))
theorem q73 {N:Nat} (hN:1000000000000≤N) (x:List (Int)) (hs:x.length<4000000) (k:Int) (h0:0≤k) (hb:k+(q31 x:Nat)≤100000000000):F_262 N x k=some (k+(q31 x:Nat)):=by
 unfold F_262
 have hlen:x.length<4000000:=hs
 refine q81 (fun e=>1) hN h0 hb hlen ?_ ?_
 ·intro i hi m next hm hmb hn
  (try dsimp only at hmb)
  dsimp only [nth]
  refine Ret.must (by omega) ?_
  refine Ret.atN hi ?_
  refine Ret.next hn ?_
  (try simp (disch:=omega) only [wrapI])
  omega
 ·intro m next
  dsimp only [nth]
  exact Ret.eq (Ret.mustN (by omega) (Ret.ret rfl))
theorem q528 {N:Nat} (hN:1000000000000≤N) (x:List DTable) (hs:x.length<4000000∧∀ e0∈x,(e0.1.length<4000000)∧(e0.2.1.length<4000000)∧(e0.2.2.1.length<4000000)) (k:Int) (h0:0≤k) (hb:k+(q116 x:Nat)≤100000000000):F_263 N x k=some (k+(q116 x:Nat)):=by
 unfold F_263
 have hlen:x.length<4000000:=hs.1
 refine q81 (fun e=>q109 e) hN h0 hb hlen ?_ ?_
 ·intro i hi m next hm hmb hn
  have hse:=hs.2 _ (List.getElem_mem hi)
  simp only [q109] at hmb
  dsimp only [nth]
  refine Ret.must (by omega) ?_
  refine Ret.atN hi ?_
  refine Ret.call (q73 hN _ (hse.1) _ (by (try simp (disch:=omega) only [wrapI]); omega) (by (try simp (disch:=omega) only [wrapI]); omega)) ?_
  refine Ret.atN hi ?_
  refine Ret.call (q73 hN _ (hse.2.1) _ (by (try simp (disch:=omega) only [wrapI]); omega) (by (try simp (disch:=omega) only [wrapI]); omega)) ?_
  refine Ret.atN hi ?_
  refine Ret.call (q73 hN _ (hse.2.2) _ (by (try simp (disch:=omega) only [wrapI]); omega) (by (try simp (disch:=omega) only [wrapI]); omega)) ?_
  refine Ret.next hn ?_
  (try simp (disch:=omega) only [wrapI])
  simp only [q109]
  omega
 ·intro m next
  dsimp only [nth]
  exact Ret.eq (Ret.mustN (by omega) (Ret.ret rfl))
theorem q806 {N:Nat} (hN:1000000000000≤N) (x:List DArc) (hs:x.length<4000000∧∀ e0∈x,(e0.2.2.2.2.1.length<4000000∧∀ e1∈e0.2.2.2.2.1,(e1.1.length<4000000)∧(e1.2.1.length<4000000)∧(e1.2.2.1.length<4000000))∧(e0.2.2.2.2.2.1.length<4000000∧∀ e1∈e0.2.2.2.2.2.1,(e1.1.length<4000000)∧(e1.2.1.length<4000000)∧(e1.2.2.1.length<4000000))) (k:Int) (h0:0≤k) (hb:k+(q279 x:Nat)≤100000000000):F_264 N x k=some (k+(q279 x:Nat)):=by
 unfold F_264
 have hlen:x.length<4000000:=hs.1
 refine q81 (fun e=>q188 e) hN h0 hb hlen ?_ ?_
 ·intro i hi m next hm hmb hn
  have hse:=hs.2 _ (List.getElem_mem hi)
  simp only [q188] at hmb
  dsimp only [nth]
  refine Ret.must (by omega) ?_
  refine Ret.atN hi ?_
  refine Ret.atN hi ?_
  refine Ret.atN hi ?_
  refine Ret.atN hi ?_
  refine Ret.atN hi ?_
  refine Ret.call (q528 hN _ (hse.1) _ (by (try simp (disch:=omega) only [wrapI]); omega) (by (try simp (disch:=omega) only [wrapI]); omega)) ?_
  refine Ret.atN hi ?_
  refine Ret.call (q528 hN _ (hse.2) _ (by (try simp (disch:=omega) only [wrapI]); omega) (by (try simp (disch:=omega) only [wrapI]); omega)) ?_
  refine Ret.next hn ?_
  (try simp (disch:=omega) only [wrapI])
  simp only [q188]
  omega
 ·intro m next
  dsimp only [nth]
  exact Ret.eq (Ret.mustN (by omega) (Ret.ret rfl))
theorem q784 {N:Nat} (hN:1000000000000≤N) (x:List DCell) (hs:x.length<4000000∧∀ e0∈x,(e0.1.size<4000000)∧(e0.2.2.1.length<4000000∧∀ e1∈e0.2.2.1,(e1.1.size<4000000))∧(e0.2.2.2.1.length<4000000∧∀ e1∈e0.2.2.2.1,(e1.2.2.2.2.1.length<4000000∧∀ e2∈e1.2.2.2.2.1,(e2.1.length<4000000)∧(e2.2.1.length<4000000)∧(e2.2.2.1.length<4000000))∧(e1.2.2.2.2.2.1.length<4000000∧∀ e2∈e1.2.2.2.2.2.1,(e2.1.length<4000000)∧(e2.2.1.length<4000000)∧(e2.2.2.1.length<4000000)))∧(e0.2.2.2.2.1.length<4000000)) (k:Int) (h0:0≤k) (hb:k+(q145 x:Nat)≤100000000000):F_265 N x k=some (k+(q145 x:Nat)):=by
 unfold F_265
 have hlen:x.length<4000000:=hs.1
 refine q81 (fun e=>q128 e) hN h0 hb hlen ?_ ?_
 ·intro i hi m next hm hmb hn
  have hse:=hs.2 _ (List.getElem_mem hi)
  simp only [q128] at hmb
  dsimp only [nth]
  refine Ret.must (by omega) ?_
  refine Ret.text hN (by (try simp (disch:=omega) only [wrapI]); omega) fun _=>?_
  refine Ret.atN hi ?_
  refine Ret.atN hi ?_
  refine Ret.atN hi ?_
  refine Ret.call (q795 hN _ (hse.2.1) _ (by (try simp (disch:=omega) only [wrapI]); omega) (by (try simp (disch:=omega) only [wrapI]); omega)) ?_
  refine Ret.atN hi ?_
  refine Ret.call (q806 hN _ (hse.2.2.1) _ (by (try simp (disch:=omega) only [wrapI]); omega) (by (try simp (disch:=omega) only [wrapI]); omega)) ?_
  refine Ret.atN hi ?_
  refine Ret.call (q73 hN _ (hse.2.2.2) _ (by (try simp (disch:=omega) only [wrapI]); omega) (by (try simp (disch:=omega) only [wrapI]); omega)) ?_
  refine Ret.atN hi ?_
  refine Ret.atN hi ?_
  refine Ret.next hn ?_
  (try simp (disch:=omega) only [wrapI])
  simp only [q128]
  omega
 ·intro m next
  dsimp only [nth]
  exact Ret.eq (Ret.mustN (by omega) (Ret.ret rfl))
theorem q658 {N:Nat} (hN:1000000000000≤N) (x:DLibrary) (hs:(x.1.length<4000000∧∀ e0∈x.1,(e0.1.size<4000000)∧(e0.2.2.1.length<4000000∧∀ e1∈e0.2.2.1,(e1.1.size<4000000))∧(e0.2.2.2.1.length<4000000∧∀ e1∈e0.2.2.2.1,(e1.2.2.2.2.1.length<4000000∧∀ e2∈e1.2.2.2.2.1,(e2.1.length<4000000)∧(e2.2.1.length<4000000)∧(e2.2.2.1.length<4000000))∧(e1.2.2.2.2.2.1.length<4000000∧∀ e2∈e1.2.2.2.2.2.1,(e2.1.length<4000000)∧(e2.2.1.length<4000000)∧(e2.2.2.1.length<4000000)))∧(e0.2.2.2.2.1.length<4000000))) (k:Int) (h0:0≤k) (hb:k+(q103 x:Nat)≤100000000000):F_266 N x k=some (k+(q103 x:Nat)):=by
 unfold F_266
 unfold q103 at hb ⊢
 refine Ret.eq ?_
 refine Ret.call (q784 hN _ (hs) _ (by omega) (by omega)) ?_
 exact Ret.ret (by omega)
theorem q513 {N:Nat} (hN:1000000000000≤N) (x:List DInstance) (hs:x.length<4000000∧∀ e0∈x,(e0.1.size<4000000)∧(e0.2.2.1.length<4000000)) (k:Int) (h0:0≤k) (hb:k+(q77 x:Nat)≤100000000000):F_267 N x k=some (k+(q77 x:Nat)):=by
 unfold F_267
 have hlen:x.length<4000000:=hs.1
 refine q81 (fun e=>q61 e) hN h0 hb hlen ?_ ?_
 ·intro i hi m next hm hmb hn
  have hse:=hs.2 _ (List.getElem_mem hi)
  simp only [q61] at hmb
  dsimp only [nth]
  refine Ret.must (by omega) ?_
  refine Ret.text hN (by (try simp (disch:=omega) only [wrapI]); omega) fun _=>?_
  refine Ret.atN hi ?_
  refine Ret.atN hi ?_
  refine Ret.atN hi ?_
  refine Ret.call (q73 hN _ (hse.2) _ (by (try simp (disch:=omega) only [wrapI]); omega) (by (try simp (disch:=omega) only [wrapI]); omega)) ?_
  refine Ret.next hn ?_
  (try simp (disch:=omega) only [wrapI])
  simp only [q61]
  omega
 ·intro m next
  dsimp only [nth]
  exact Ret.eq (Ret.mustN (by omega) (Ret.ret rfl))
theorem q652 {N:Nat} (hN:1000000000000≤N) (x:List (ByteArray)) (hs:x.length<4000000∧∀ e0∈x,e0.size<4000000) (k:Int) (h0:0≤k) (hb:k+(q105 x:Nat)≤100000000000):F_268 N x k=some (k+(q105 x:Nat)):=by
 unfold F_268
 have hlen:x.length<4000000:=hs.1
 refine q81 (fun e=>1) hN h0 hb hlen ?_ ?_
 ·intro i hi m next hm hmb hn
  (try dsimp only at hmb)
  dsimp only [nth]
  refine Ret.must (by omega) ?_
  refine Ret.text hN (by (try simp (disch:=omega) only [wrapI]); omega) fun _=>?_
  refine Ret.atN hi ?_
  refine Ret.next hn ?_
  (try simp (disch:=omega) only [wrapI])
  omega
 ·intro m next
  dsimp only [nth]
  exact Ret.eq (Ret.mustN (by omega) (Ret.ret rfl))
theorem q752 {N:Nat} (hN:1000000000000≤N) (x:List DPort) (hs:x.length<4000000∧∀ e0∈x,(e0.1.size<4000000)) (k:Int) (h0:0≤k) (hb:k+(q149 x:Nat)≤100000000000):F_269 N x k=some (k+(q149 x:Nat)):=by
 unfold F_269
 have hlen:x.length<4000000:=hs.1
 refine q81 (fun e=>q132 e) hN h0 hb hlen ?_ ?_
 ·intro i hi m next hm hmb hn
  have hse:=hs.2 _ (List.getElem_mem hi)
  simp only [q132] at hmb
  dsimp only [nth]
  refine Ret.must (by omega) ?_
  refine Ret.text hN (by (try simp (disch:=omega) only [wrapI]); omega) fun _=>?_
  refine Ret.atN hi ?_
  refine Ret.atN hi ?_
  refine Ret.atN hi ?_
  refine Ret.next hn ?_
  (try simp (disch:=omega) only [wrapI])
  simp only [q132]
  omega
 ·intro m next
  dsimp only [nth]
  exact Ret.eq (Ret.mustN (by omega) (Ret.ret rfl))
theorem q731 {N:Nat} (hN:1000000000000≤N) (x:DDesign) (hs:(x.1.length<4000000∧∀ e0∈x.1,(e0.1.size<4000000)∧(e0.2.2.1.length<4000000))∧(x.2.1.length<4000000∧∀ e0∈x.2.1,e0.size<4000000)∧(x.2.2.1.length<4000000∧∀ e0∈x.2.2.1,(e0.1.size<4000000))) (k:Int) (h0:0≤k) (hb:k+(q117 x:Nat)≤100000000000):F_270 N x k=some (k+(q117 x:Nat)):=by
 unfold F_270
 unfold q117 at hb ⊢
 refine Ret.eq ?_
 refine Ret.call (q513 hN _ (hs.1) _ (by omega) (by omega)) ?_
 refine Ret.call (q652 hN _ (hs.2.1) _ (by omega) (by omega)) ?_
 refine Ret.call (q752 hN _ (hs.2.2) _ (by omega) (by omega)) ?_
 exact Ret.ret (by omega)
theorem q766 {N:Nat} (hN:1000000000000≤N) (x:List DWire) (hs:x.length<4000000∧∀ e0∈x,(e0.1.length<4000000)∧(e0.2.1.length<4000000)∧(e0.2.2.1.length<4000000)∧(e0.2.2.2.1.length<4000000)) (k:Int) (h0:0≤k) (hb:k+(q157 x:Nat)≤100000000000):F_271 N x k=some (k+(q157 x:Nat)):=by
 unfold F_271
 have hlen:x.length<4000000:=hs.1
 refine q81 (fun e=>q130 e) hN h0 hb hlen ?_ ?_
 ·intro i hi m next hm hmb hn
  have hse:=hs.2 _ (List.getElem_mem hi)
  simp only [q130] at hmb
  dsimp only [nth]
  refine Ret.must (by omega) ?_
  refine Ret.atN hi ?_
  refine Ret.call (q73 hN _ (hse.1) _ (by (try simp (disch:=omega) only [wrapI]); omega) (by (try simp (disch:=omega) only [wrapI]); omega)) ?_
  refine Ret.atN hi ?_
  refine Ret.call (q73 hN _ (hse.2.1) _ (by (try simp (disch:=omega) only [wrapI]); omega) (by (try simp (disch:=omega) only [wrapI]); omega)) ?_
  refine Ret.atN hi ?_
  refine Ret.call (q73 hN _ (hse.2.2.1) _ (by (try simp (disch:=omega) only [wrapI]); omega) (by (try simp (disch:=omega) only [wrapI]); omega)) ?_
  refine Ret.atN hi ?_
  refine Ret.call (q73 hN _ (hse.2.2.2) _ (by (try simp (disch:=omega) only [wrapI]); omega) (by (try simp (disch:=omega) only [wrapI]); omega)) ?_
  refine Ret.next hn ?_
  (try simp (disch:=omega) only [wrapI])
  simp only [q130]
  omega
 ·intro m next
  dsimp only [nth]
  exact Ret.eq (Ret.mustN (by omega) (Ret.ret rfl))
theorem q762 {N:Nat} (hN:1000000000000≤N) (x:DBlock) (hs:((x.1.1.length<4000000∧∀ e0∈x.1.1,(e0.1.size<4000000)∧(e0.2.2.1.length<4000000∧∀ e1∈e0.2.2.1,(e1.1.size<4000000))∧(e0.2.2.2.1.length<4000000∧∀ e1∈e0.2.2.2.1,(e1.2.2.2.2.1.length<4000000∧∀ e2∈e1.2.2.2.2.1,(e2.1.length<4000000)∧(e2.2.1.length<4000000)∧(e2.2.2.1.length<4000000))∧(e1.2.2.2.2.2.1.length<4000000∧∀ e2∈e1.2.2.2.2.2.1,(e2.1.length<4000000)∧(e2.2.1.length<4000000)∧(e2.2.2.1.length<4000000)))∧(e0.2.2.2.2.1.length<4000000)))∧((x.2.1.1.length<4000000∧∀ e0∈x.2.1.1,(e0.1.size<4000000)∧(e0.2.2.1.length<4000000))∧(x.2.1.2.1.length<4000000∧∀ e0∈x.2.1.2.1,e0.size<4000000)∧(x.2.1.2.2.1.length<4000000∧∀ e0∈x.2.1.2.2.1,(e0.1.size<4000000)))∧(x.2.2.1.length<4000000∧∀ e0∈x.2.2.1,(e0.1.length<4000000)∧(e0.2.1.length<4000000)∧(e0.2.2.1.length<4000000)∧(e0.2.2.2.1.length<4000000))) (k:Int) (h0:0≤k) (hb:k+(q143 x:Nat)≤100000000000):F_272 N x k=some (k+(q143 x:Nat)):=by
 unfold F_272
 unfold q143 at hb ⊢
 refine Ret.eq ?_
 refine Ret.call (q658 hN _ (hs.1) _ (by omega) (by omega)) ?_
 refine Ret.call (q731 hN _ (hs.2.1) _ (by omega) (by omega)) ?_
 refine Ret.call (q766 hN _ (hs.2.2) _ (by omega) (by omega)) ?_
 exact Ret.ret (by omega)
theorem q642 {N:Nat} (hN:1000000000000≤N) (x:List DSource) (hs:x.length<4000000) (k:Int) (h0:0≤k) (hb:k+(q87 x:Nat)≤100000000000):F_273 N x k=some (k+(q87 x:Nat)):=by
 unfold F_273
 have hlen:x.length<4000000:=hs
 refine q81 (fun e=>q142 e) hN h0 hb hlen ?_ ?_
 ·intro i hi m next hm hmb hn
  simp only [q142,q133,q133] at hmb
  dsimp only [nth]
  refine Ret.must (by omega) ?_
  refine Ret.atN hi ?_
  refine Ret.atN hi ?_
  refine Ret.atN hi ?_
  refine Ret.atN hi ?_
  refine Ret.atN hi ?_
  refine Ret.next hn ?_
  (try simp (disch:=omega) only [wrapI])
  simp only [q142,q133,q133]
  omega
 ·intro m next
  dsimp only [nth]
  exact Ret.eq (Ret.mustN (by omega) (Ret.ret rfl))
theorem mk_Job {N:Nat} (hN:1000000000000≤N) (x:DJob) (hs:(((x.1.1.1.length<4000000∧∀ e0∈x.1.1.1,(e0.1.size<4000000)∧(e0.2.2.1.length<4000000∧∀ e1∈e0.2.2.1,(e1.1.size<4000000))∧(e0.2.2.2.1.length<4000000∧∀ e1∈e0.2.2.2.1,(e1.2.2.2.2.1.length<4000000∧∀ e2∈e1.2.2.2.2.1,(e2.1.length<4000000)∧(e2.2.1.length<4000000)∧(e2.2.2.1.length<4000000))∧(e1.2.2.2.2.2.1.length<4000000∧∀ e2∈e1.2.2.2.2.2.1,(e2.1.length<4000000)∧(e2.2.1.length<4000000)∧(e2.2.2.1.length<4000000)))∧(e0.2.2.2.2.1.length<4000000)))∧((x.1.2.1.1.length<4000000∧∀ e0∈x.1.2.1.1,(e0.1.size<4000000)∧(e0.2.2.1.length<4000000))∧(x.1.2.1.2.1.length<4000000∧∀ e0∈x.1.2.1.2.1,e0.size<4000000)∧(x.1.2.1.2.2.1.length<4000000∧∀ e0∈x.1.2.1.2.2.1,(e0.1.size<4000000)))∧(x.1.2.2.1.length<4000000∧∀ e0∈x.1.2.2.1,(e0.1.length<4000000)∧(e0.2.1.length<4000000)∧(e0.2.2.1.length<4000000)∧(e0.2.2.2.1.length<4000000)))∧((x.2.1.1.size<4000000))∧(x.2.2.1.length<4000000)∧(x.2.2.2.1.length<4000000)) (k:Int) (h0:0≤k) (hb:k+(q363 x:Nat)≤100000000000):F_274 N x k=some (k+(q363 x:Nat)):=by
 unfold F_274
 unfold q363 at hb ⊢
 refine Ret.eq ?_
 refine Ret.call (q762 hN _ (hs.1) _ (by omega) (by omega)) ?_
 refine Ret.call (q73 hN _ (hs.2.2.1) _ (by omega) (by omega)) ?_
 refine Ret.call (q642 hN _ (hs.2.2.2) _ (by omega) (by omega)) ?_
 exact Ret.ret (by omega)
theorem q704 {N:Nat} (hN:1000000000000≤N) (x:DPath) (hs:(x.2.1.length<4000000)) (k:Int) (h0:0≤k) (hb:k+(q266 x:Nat)≤100000000000):F_275 N x k=some (k+(q266 x:Nat)):=by
 unfold F_275
 unfold q266 at hb ⊢
 refine Ret.eq ?_
 refine Ret.call (q73 hN _ (hs) _ (by omega) (by omega)) ?_
 exact Ret.ret (by omega)
end Go.Proofs.YtjimamifmpbhgaaGreatDoor
