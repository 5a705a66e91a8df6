/- Texts: numbers and names of places. No program in sight. Times as texts: both sides. No program in sight. The report of a path: both sides. No program in sight. What a row lays is what the contracts ask for: a table of strings,a table of numbers. No condition of its own. -/
import Derived.Test.YtegkebdjikhgmaaGreatDoorPgX
import Derived.Test.YtegkebdjikhgmaaGreatDoorPgW
import Derived.Test.YtegkebdjikhgmaaGreatDoorPgZ
import Derived.Test.YtegkebdjikhgmaaGreatDoorPgL
import Derived.Test.YtegkebdjikhgmaaGreatDoorRows
import Derived.Lib.LaidTab
import Derived.ChangeVars
import Derived.Lib.AppendIntMem
namespace Go.Proofs.YtegkebdjikhgmaaGreatDoor
set_option linter.unusedSimpArgs false
set_option linter.unusedVariables false
set_option linter.unusedSectionVars false
set_option maxHeartbeats 1000000
theorem number (N:Nat):∀ (M n:Nat),n<10 ^ (M+1)→n<1000000000000000000→F_114 N (M+1) ((n:Int),())=some (⟨(Lib.decDigits n).toArray⟩,())
 | M,n,hn,hb=>by
  rw [F_114]
  have h0:¬ ((n:Int)<0):=by omega
  simp only [h0,decide_false,cond_false]
  by_cases h:n<10
  ·have h1:(n:Int)<10:=by omega
   simp only [h1,decide_true,cond_true]
   rw [Lib.decDigits,dif_pos h,wrap64 (by omega) (by omega),wrap8 (by omega) (by omega)]
   have:((48:Int)+n).toNat=48+n:=by omega
   simp [strOf,this]
   rfl
  ·have h1:¬ ((n:Int)<10):=by omega
   simp only [h1,decide_false,cond_false]
   cases M with
   | zero=>omega
   | succ M=>
    have e1:(n:Int).tdiv 10=((n / 10:Nat):Int):=by
     rw [Int.tdiv_eq_ediv_of_nonneg (by omega)]; omega
    have e2:(n:Int).tmod 10=((n % 10:Nat):Int):=by
     rw [Int.tmod_eq_emod_of_nonneg (by omega)]; omega
    have hlt:n / 10<10 ^ (M+1):=by rw [Nat.pow_succ] at hn; omega
    have hl:=q49 17 (n / 10) (by omega)
    rw [e1,e2,wrap64 (by omega) (by omega),number N M (n / 10) hlt (by omega)]
    have h3:(IntKind.u8.wrap (IntKind.i64.wrap ((48:Int)+((n % 10:Nat):Int))))=((48+n % 10:Nat):Int):=by
     rw [wrap64 (by omega) (by omega),wrap8 (by omega) (by omega)]; omega
    simp only [obind,h3]
    have h4:((⟨(Lib.decDigits (n / 10)).toArray⟩:ByteArray).size+(strOf [((48+n % 10:Nat):Int)]).size≤limS):=by
     have:(strOf [((48+n % 10:Nat):Int)]).size=1:=rfl
     rw [this,q336]
     simp only [limS]
     simp; omega
    simp only [h4,decide_true,cond_true]
    have hd:Lib.decDigits n=Lib.decDigits (n / 10)++[UInt8.ofNat (48+n % 10)]:=by rw [Lib.decDigits,dif_neg h]
    rw [hd]
    congr 2
abbrev B (l:List UInt8):ByteArray:=⟨l.toArray⟩
theorem B_size (l:List UInt8):(B l).size=l.length:=by rw [q336]
theorem B_of (a:ByteArray):B a.data.toList=a:=by cases a; simp [B]
theorem B_app (x y:List UInt8):B x++B y=B (x++y):=q730 (by rw [q703])
section
variable {N:Nat} (hN:4000000≤N) {u:Unit}
include hN
theorem q780 {n:Int} (h:BtwP (-100000000000000000) 100000000000000000 n):(Lib.itoa n).length≤19:=by
 unfold Lib.itoa
 split
 ·have:=q49 17 n.natAbs (by have:=h.1; omega)
  simp only [List.length_cons]; omega
 ·have:=q49 17 n.toNat (by have:=h.2; omega)
  omega
theorem q374 {n:Int} (h:BtwP (-100000000000000000) 100000000000000000 n):F_114 N N (n,u)=some (B (Lib.itoa n),()):=by
 obtain ⟨M,rfl⟩:∃ M,N=M+2:=⟨N - 2,by omega⟩
 obtain ⟨h1,h2⟩:=h
 have big:∀ k:Nat,17≤k→(1000000000000000000:Nat)≤10 ^ (k+1):=fun k hk=>by
  have:(10:Nat) ^ 18≤10 ^ (k+1):=Nat.pow_le_pow_right (by omega) (by omega)
  exact this
 by_cases hn:n<0
 ·have hl:=q49 17 n.natAbs (by omega)
  have e:(0:Int) - n=((n.natAbs:Nat):Int):=by omega
  rw [F_114]
  dsimp only
  rw [decide_eq_true hn,cond_true,wrap64 (by omega) (by omega),e,number _ M n.natAbs (Nat.lt_of_lt_of_le (by omega) (big M (by omega))) (by omega)]
  simp only [obind]
  rw [decide_eq_true (by rw [q336,q336]; simp only [limS]; simp; omega),cond_true]
  unfold Lib.itoa
  rw [if_pos hn]
  congr 2
 ·obtain ⟨m,rfl⟩:∃ m:Nat,n=(m:Int):=⟨n.toNat,by omega⟩
  rw [number _ (M+1) m (Nat.lt_of_lt_of_le (by omega) (big (M+1) (by omega))) (by omega)]
  unfold Lib.itoa
  rw [if_neg hn]
  rfl
theorem q494 {n:Int} (h:BtwP (-100000000000000000) 100000000000000000 n):F_247 N (n,u)=some (B (Lib.itoa n),()):=by
 have hl:=q780 hN h
 unfold F_247 q83
 dsimp only
 rw [decide_eq_true (by omega:(Lib.itoa n).length≤30)]
 rfl
theorem q223 {b:DBlock} (hs:SmallB b) {p:Plc} (hp:PlcP b p):Ret (F_244 N (b.2.1,b.1,p,u)) (fun r=>r.1.size<9000000):=by
 unfold F_244
 dsimp only
 rcases hp with ⟨h1,h2,q,hq,_⟩ | ⟨h1,c,⟨_,x,hx,hx0,hc⟩,h2,h3⟩
 ·refine Ret.must (by omega) (q46 h2 hq (Ret.ret ?_))
  have:=hs.2.1.2.2.2 q (List.mem_of_getElem? hq)
  dsimp only; omega
 ·have hxs:=(hs.2.1.1.2 x (List.mem_of_getElem? hx)).1
  have hcs:=(hs.1.2 c (List.mem_of_getElem? hc)).2.1.2 _ (List.getElem_mem h3)
  refine Ret.mustN (by omega) (q46 h1 hx (Ret.guard ?_ (q46 hx0 hc (Ret.atZ h2 h3 (Ret.guard ?_ (Ret.ret ?_))))))
  ·simp only [B_size,limS,List.length_cons,List.length_nil]; omega
  ·rw [ByteArray.size_append]; simp only [B_size,limS,List.length_cons,List.length_nil]; omega
  ·dsimp only; rw [ByteArray.size_append,ByteArray.size_append]; simp only [B_size,List.length_cons,List.length_nil]; omega
noncomputable def nameB (N:Nat) (b:DBlock) (n:Int):ByteArray:=match (q11 b.2.1)[n.toNat]? with
 | some p=>((F_244 N (b.2.1,b.1,p,())).getD (B [],())).1
 | none=>B []
theorem q628 {b:DBlock} (hs:SmallB b) (hb:BlockP b) (n:Int):(nameB N b n).size<9000000:=by
 unfold nameB
 split
 ·rename_i p hp
  obtain ⟨r,hr,h⟩:=q223 (u:=()) hN hs ((q104 hb.1 p (List.mem_of_getElem? hp)).2)
  rw [hr]; exact h
 ·rw [B_size]; simp
theorem q353 {b:DBlock} (hs:SmallB b) (hb:BlockP b) {n:Int} (h0:0≤n) {p:Plc} (hp:(q11 b.2.1)[n.toNat]?=some p):F_109 N (b.1,b.2.1,n,u)=some (nameB N b n,()):=by
 obtain ⟨⟨r,v⟩,hr,h⟩:=q223 (u:=()) hN hs ((q104 hb.1 p (List.mem_of_getElem? hp)).2)
 have hlt:n.toNat<(q11 b.2.1).length:=(List.getElem?_eq_some_iff.1 hp).1
 have hat:F_107 N (b.1,b.2.1,n,u)=some (p,true,()):=by
  refine Ret.eq ?_
  unfold F_107
  dsimp only
  refine Ret.call (q247 hN hs.1 hs.2.1) ?_
  rw [dec_of hb.1]
  refine Ret.call (q41 hN (few_of hb.1)) (Ret.call (q20 _ _ _ _ _) ?_)
  have hpl:=q16 (few_of hb.1)
  dsimp only
  rw [q48 hN (by omega),dec_of (P:=BtwP _ _ _) ⟨h0,by omega⟩]
  refine Ret.guardZ h0 (by omega) ?_
  rw [hp]
  exact Ret.ret rfl
 refine Ret.eq ?_
 unfold F_109
 dsimp only
 refine Ret.call hat (Ret.call (show F_108 N (b.1,b.2.1,p,())=some (r,v) from hr) (Ret.ret ?_))
 unfold nameB
 rw [hp]
 dsimp only
 rw [hr]; rfl
end
end Go.Proofs.YtegkebdjikhgmaaGreatDoor
namespace Go.Proofs.YtegkebdjikhgmaaGreatDoor
set_option linter.unusedSimpArgs false
set_option linter.unusedVariables false
set_option linter.unusedSectionVars false
set_option maxHeartbeats 1000000
theorem q310 {n:Nat} (h:n<10):Lib.decDigits n=[UInt8.ofNat (48+n)]:=by rw [Lib.decDigits,dif_pos h]
theorem dd_big {n:Nat} (h:¬ n<10):Lib.decDigits n=Lib.decDigits (n / 10)++[UInt8.ofNat (48+n % 10)]:=by rw [Lib.decDigits,dif_neg h]
theorem dig4 {r:Nat} (h:r<1000):Lib.decDigits (1000+r)=49 :: (Lib.repeatL [48] (3 - (Lib.decDigits r).length)++Lib.decDigits r)∧1≤(Lib.decDigits r).length∧(Lib.decDigits r).length≤3:=by
 have e:Lib.decDigits (1000+r)=[49,UInt8.ofNat (48+r / 100),UInt8.ofNat (48+r / 10 % 10),UInt8.ofNat (48+r % 10)]:=by
  rw [dd_big (by omega),show (1000+r) / 10=100+r / 10 by omega,show (1000+r) % 10=r % 10 by omega,
   dd_big (by omega),show (100+r / 10) / 10=10+r / 100 by omega,show (100+r / 10) % 10=r / 10 % 10 by omega,
   dd_big (by omega),show (10+r / 100) / 10=1 by omega,show (10+r / 100) % 10=r / 100 by omega,q310 (by omega)]
  rfl
 rw [e]
 by_cases h1:r<10
 ·rw [q310 h1,show r / 100=0 by omega,show r / 10 % 10=0 by omega,show r % 10=r by omega]
  exact ⟨rfl,by simp,by simp⟩
 ·by_cases h2:r<100
  ·rw [dd_big h1,q310 (by omega),show r / 100=0 by omega,show r / 10 % 10=r / 10 by omega]
   exact ⟨rfl,by simp,by simp⟩
  ·rw [dd_big h1,dd_big (by omega),q310 (by omega),show r / 10 / 10=r / 100 by omega]
   exact ⟨rfl,by simp,by simp⟩
theorem B_tail (x:UInt8) (l:List UInt8):(B (x :: l)).extract 1 (B (x :: l)).size=B l:=by
 apply q730
 rw [ByteArray.data_extract,B_size]
 simp
def tabsL (m:Nat):List UInt8:=Lib.decDigits (m / 1000)++[46]++Lib.repeatL [48] (3 - (Lib.decDigits (m % 1000)).length)++Lib.decDigits (m % 1000)
def timeL (n:Int):List UInt8:=(if n<0 then [45] else [])++tabsL n.natAbs
theorem itoaN (n:Nat):Lib.itoa (n:Int)=Lib.decDigits n:=by
 unfold Lib.itoa
 rw [if_neg (by omega)]
 simp
section
variable {N:Nat} (hN:4000000≤N) {u:Unit}
include hN
theorem q106 {n:Nat} (h:n≤100000000000000000):F_247 N ((n:Int),u)=some (B (Lib.decDigits n),()):=by
 rw [q494 hN ⟨by omega,by omega⟩,itoaN]
theorem q304 {n:Nat} (h:n≤100000000000000000):F_114 N N ((n:Int),u)=some (B (Lib.decDigits n),()):=by
 rw [q374 hN ⟨by omega,by omega⟩,itoaN]
omit hN in
theorem q387 {k:Nat} (h:k≤3):q63 N ((⟨#[48]⟩:ByteArray),(k:Int),u)=some (B (Lib.repeatL [48] k),()):=by
 unfold q63
 dsimp only
 rw [decide_eq_true (by omega:(0:Int)≤(k:Int)),decide_eq_true (by omega:(k:Int)≤9223372036854775807),Int.toNat_natCast,decide_eq_true (by
  have:(⟨#[48]⟩:ByteArray).size=1:=rfl
  rw [this]; omega:(⟨#[48]⟩:ByteArray).size * k≤140737488355328)]
 rfl
omit hN in
theorem q621 {m:Nat} (h:m≤1000000000):(tabsL m).length≤30:=by
 have h1:=q49 17 (m / 1000) (by omega)
 obtain ⟨_,h2,h3⟩:=dig4 (r:=m % 1000) (by omega)
 have h4:∀ k,(Lib.repeatL [48] k).length=k:=fun k=>by
  induction k with
  | zero=>rfl
  | succ k ih=>simp [Lib.repeatL,ih]
 unfold tabsL
 simp only [List.length_append,List.length_cons,List.length_nil,h4]
 omega
theorem q89 {n:Int} (h:BtwP (-1000000000) 1000000000 n):F_248 N (n,u)=some (B (timeL n),()):=by
 obtain ⟨h1,h2⟩:=h
 have hd:=q49 17 (n.natAbs / 1000) (by omega)
 obtain ⟨_,k1,k2⟩:=dig4 (r:=n.natAbs % 1000) (by omega)
 have hz:∀ k,(Lib.repeatL [48] k).length=k:=fun k=>by
  induction k with
  | zero=>rfl
  | succ k ih=>simp [Lib.repeatL,ih]
 have c0:(⟨#[45]⟩:ByteArray)=B [45]:=rfl
 have c1:(⟨#[46]⟩:ByteArray)=B [46]:=rfl
 have c2:(⟨#[]⟩:ByteArray)=B []:=rfl
 have sub3:IntKind.i64.wrap ((3:Int) - ((B (Lib.decDigits (n.natAbs % 1000))).size:Int))=((3 - (Lib.decDigits (n.natAbs % 1000)).length:Nat):Int):=by
  rw [B_size,wrap64 (by omega) (by omega)]; omega
 refine Ret.eq ?_
 unfold F_248
 dsimp only
 refine Ret.ifd ?_ ?_ <;> intro hn
 ·have e0:IntKind.i64.wrap (0 - n)=((n.natAbs:Nat):Int):=by rw [wrap64 (by omega) (by omega)]; omega
  have e1:((n.natAbs:Nat):Int).tdiv 1000=((n.natAbs / 1000:Nat):Int):=by rw [Int.tdiv_eq_ediv_of_nonneg (by omega)]; omega
  have e2:((n.natAbs:Nat):Int).tmod 1000=((n.natAbs % 1000:Nat):Int):=by rw [Int.tmod_eq_emod_of_nonneg (by omega)]; omega
  rw [e0,e1,e2,wrap64 (by omega) (by omega)]
  refine Ret.call (q106 hN (by omega)) (Ret.call (q106 hN (by omega)) ?_)
  dsimp only
  rw [c0,c1,sub3]
  simp only [B_app]
  iterate 2 refine Ret.guard (by simp only [B_size,limS,List.length_append,List.length_cons,List.length_nil]; omega) ?_
  refine Ret.call (q387 (by omega)) ?_
  dsimp only
  simp only [B_app]
  iterate 2 refine Ret.guard (by simp only [B_size,limS,List.length_append,List.length_cons,List.length_nil,hz]; omega) ?_
  refine Ret.ret ?_
  simp [timeL,tabsL,hn,B]
 ·obtain ⟨m,rfl⟩:∃ m:Nat,n=(m:Int):=⟨n.toNat,by omega⟩
  rw [Int.natAbs_natCast] at *
  have e1:((m:Nat):Int).tdiv 1000=((m / 1000:Nat):Int):=by rw [Int.tdiv_eq_ediv_of_nonneg (by omega)]; omega
  have e2:((m:Nat):Int).tmod 1000=((m % 1000:Nat):Int):=by rw [Int.tmod_eq_emod_of_nonneg (by omega)]; omega
  rw [e1,e2,wrap64 (by omega) (by omega)]
  refine Ret.call (q106 hN (by omega)) (Ret.call (q106 hN (by omega)) ?_)
  dsimp only
  rw [c2,c1,sub3]
  simp only [B_app]
  iterate 2 refine Ret.guard (by simp only [B_size,limS,List.length_append,List.length_cons,List.length_nil]; omega) ?_
  refine Ret.call (q387 (by omega)) ?_
  dsimp only
  simp only [B_app]
  iterate 2 refine Ret.guard (by simp only [B_size,limS,List.length_append,List.length_cons,List.length_nil,hz]; omega) ?_
  refine Ret.ret ?_
  simp [timeL,tabsL,hn,B]
theorem q705 (M:Nat) {m:Nat} (h:m≤1000000000):F_115 N (M+1) ((m:Int),u)=some (B (tabsL m),()):=by
 have hd:=q49 17 (m / 1000) (by omega)
 obtain ⟨k0,k1,k2⟩:=dig4 (r:=m % 1000) (by omega)
 have hz:∀ k,(Lib.repeatL [48] k).length=k:=fun k=>by
  induction k with
  | zero=>rfl
  | succ k ih=>simp [Lib.repeatL,ih]
 have c1:(⟨#[46]⟩:ByteArray)=B [46]:=rfl
 have e1:((m:Nat):Int).tdiv 1000=((m / 1000:Nat):Int):=by rw [Int.tdiv_eq_ediv_of_nonneg (by omega)]; omega
 have e2:((m:Nat):Int).tmod 1000=((m % 1000:Nat):Int):=by rw [Int.tmod_eq_emod_of_nonneg (by omega)]; omega
 have e3:IntKind.i64.wrap ((1000:Int)+((m % 1000:Nat):Int))=((1000+m % 1000:Nat):Int):=by rw [wrap64 (by omega) (by omega)]; omega
 have hx:(B (Lib.decDigits (1000+m % 1000))).extract (1:Int).toNat ((B (Lib.decDigits (1000+m % 1000))).size:Int).toNat=B (Lib.repeatL [48] (3 - (Lib.decDigits (m % 1000)).length)++Lib.decDigits (m % 1000)):=by
  rw [k0]
  show (B _).extract 1 ((B _).size:Int).toNat=_
  rw [Int.toNat_natCast]
  exact B_tail _ _
 refine Ret.eq ?_
 unfold F_115
 dsimp only
 refine Ret.call (q20 _ _ _ _ _) ?_
 rw [dec_of (P:=BtwP _ _ _) ⟨by omega,by omega⟩]
 refine Ret.mustN (c:=(m:Int)<0) (by omega) ?_
 rw [e1,e2,e3,wrap64 (n:=((m / 1000:Nat):Int)) (by omega) (by omega)]
 refine Ret.call (q304 hN (n:=1000+m % 1000) (by omega)) (Ret.call (q304 hN (n:=m / 1000) (by omega)) ?_)
 dsimp only
 rw [hx,c1]
 simp only [B_app]
 refine Ret.guard (by simp only [B_size,limS,List.length_append,List.length_cons,List.length_nil]; omega) (Ret.guard3 ⟨by omega,?_,by omega⟩ (Ret.guard (by simp only [B_size,limS,List.length_append,List.length_cons,List.length_nil,hz]; omega) (Ret.ret ?_)))
 ·rw [B_size,k0]; simp; omega
 ·simp [tabsL,B]
theorem q58 {n:Int} (h:BtwP (-1000000000) 1000000000 n):F_115 N N (n,u)=some (B (timeL n),()):=by
 obtain ⟨M,rfl⟩:∃ M,N=M+2:=⟨N - 2,by omega⟩
 obtain ⟨h1,h2⟩:=h
 by_cases hn:n<0
 ·have hl:=q621 (m:=n.natAbs) (by omega)
  have e0:IntKind.i64.wrap (0 - n)=((n.natAbs:Nat):Int):=by rw [wrap64 (by omega) (by omega)]; omega
  have c0:(⟨#[45]⟩:ByteArray)=B [45]:=rfl
  refine Ret.eq ?_
  unfold F_115
  dsimp only
  refine Ret.call (q20 _ _ _ _ _) ?_
  rw [dec_of (P:=BtwP _ _ _) ⟨by omega,by omega⟩]
  refine Ret.must hn ?_
  rw [e0]
  refine Ret.call (q705 hN M (by omega)) ?_
  dsimp only
  rw [c0]
  simp only [B_app]
  refine Ret.guard (by simp only [B_size,limS,List.length_append,List.length_cons,List.length_nil]; omega) (Ret.ret ?_)
  simp [timeL,hn,B]
 ·obtain ⟨m,rfl⟩:∃ m:Nat,n=(m:Int):=⟨n.toNat,by omega⟩
  rw [q705 hN (M+1) (by omega)]
  simp [timeL,hn]
end
end Go.Proofs.YtegkebdjikhgmaaGreatDoor
namespace Go.Proofs.YtegkebdjikhgmaaGreatDoor
set_option linter.unusedSimpArgs false
set_option linter.unusedVariables false
set_option linter.unusedSectionVars false
set_option maxHeartbeats 1000000
noncomputable def rptW (N:Nat) (j:DJob) (s:Int) (l:List Int) (m:Int):Int×Option (List Int×DTiming):=match jobW N j with
 | (k,none)=>(k,none)
 | (k,some w)=>bif dec (m=0∨m=1) then bif dec (PathP j s l) then (k,some w) else (5,none) else (2,none)
def modeT (m:Int):List UInt8:=if m=1 then [108,97,116,101] else [101,97,114,108,121]
def linkT (k:Int):List UInt8:=if k=2 then [119,105,114,101] else [99,101,108,108]
def edgeT (n:Int):List UInt8:=if n.tmod 2=1 then [58,102] else [58,114]
noncomputable def nodeT (N:Nat) (b:DBlock) (n:Int):List UInt8:=(nameB N b (n.tdiv 2)).data.toList++edgeT n
noncomputable def dlyV (N:Nat) (j:DJob) (T:DTiming) (x:Int):DSpan:=(spanV N j.1 j.2.1 x.toNat (T.2.2.1[(frI j.1 x).toNat]?.getD zeroS)).1
noncomputable def lineT (N:Nat) (j:DJob) (T:DTiming) (s:Int) (l:List Int) (m:Int) (i:Nat):List UInt8:=
 linkT (lkK j.1 (l[i]?.getD 0).toNat).2.2.1++[32]++nodeT N j.1 (toI j.1 (l[i]?.getD 0))++[32]++timeL (modeV (dlyV N j T (l[i]?.getD 0)) m)++[32]++timeL (modeV (arrV N j T s (l.take (i+1))) m)++[10]
noncomputable def headT (N:Nat) (j:DJob) (T:DTiming) (s:Int) (l:List Int) (m:Int):List UInt8:=
 modeT m++[10,115,116,97,114,116,32]++nodeT N j.1 s++[32]++timeL (modeV (arrV N j T s (l.take 0)) m)++[10]
noncomputable def linesT (N:Nat) (j:DJob) (T:DTiming) (s:Int) (l:List Int) (m:Int) (i:Nat):List UInt8:=(List.range i).flatMap (lineT N j T s l m)
noncomputable def rptT (N:Nat) (j:DJob) (T:DTiming) (s:Int) (l:List Int) (m:Int):List UInt8:=
 headT N j T s l m++linesT N j T s l m l.length++[101,110,100,32]++timeL (modeV (arrV N j T s l) m)++[10]
noncomputable def rptR (N:Nat) (j:DJob) (s:Int) (l:List Int) (m:Int):Int×Option (List Int×DTiming)→ByteArray×Int×Unit
 | (k,none)=>(B [],k,())
 | (_,some w)=>(B (rptT N j w.2 s l m),0,())
theorem q150 (N:Nat) (j:DJob) (T:DTiming) (s:Int) (l:List Int) (m:Int) (i:Nat):linesT N j T s l m (i+1)=linesT N j T s l m i++lineT N j T s l m i:=by
 unfold linesT
 rw [List.range_succ,List.flatMap_append]
 simp
theorem time31 {n:Int} (h:BtwP (-1000000000) 1000000000 n):(timeL n).length≤31:=by
 have:=q621 (m:=n.natAbs) (by have:=h.1; have:=h.2; omega)
 unfold timeL
 rw [List.length_append]
 split <;> simp only [List.length_cons,List.length_nil] <;> omega
theorem q350 (m:Int):(modeT m).length≤5:=by unfold modeT; split <;> simp
theorem q529 (m:Int):(linkT m).length=4:=by unfold linkT; split <;> simp
theorem q342 (m:Int):(edgeT m).length=2:=by unfold edgeT; split <;> simp
section
variable {N:Nat} (hM:1000000000000≤N) {j:DJob} (hj:SmallJ j)
include hM hj
omit hj in
theorem q391 (j:DJob) (s:Int) (l:List Int) (m:Int):(∃ k,k≠0∧rptW N j s l m=(k,none))∨∃ o T,rptW N j s l m=(0,some (o,T))∧WorkP N j o T∧PathP j s l∧(m=0∨m=1):=by
 unfold rptW
 rcases q142 hM j with ⟨k,hk,e⟩ | ⟨o,T,e,hW⟩
 ·rw [e]
  exact .inl ⟨k,hk,rfl⟩
 ·rw [e]
  by_cases h2:m=0∨m=1
  rotate_left
  ·rw [q19 h2]
   exact .inl ⟨2,by decide,rfl⟩
  rw [dec_of h2]
  by_cases h:PathP j s l
  ·rw [dec_of h]
   exact .inr ⟨o,T,rfl,hW,h,h2⟩
  ·rw [q19 h]
   exact .inl ⟨5,by decide,rfl⟩
theorem q763 {s:Int} {l:List Int} (hl:l.length<4000000) (m:Int) (u:Unit):F_106 N (j,s,l,m,u)=some (specW j (rptW N j s l m)):=by
 refine Ret.eq ?_
 unfold F_106 rptW
 dsimp only
 refine Ret.call (q661 hM hj ()) ?_
 rcases q142 hM j with ⟨k,hk,e⟩ | ⟨o,T,e,hW⟩
 ·rw [e]
  exact Ret.ifnd (fun _=>Ret.ret rfl) fun h=>absurd h hk
 rw [e]
 refine Ret.ifnd (fun h=>absurd rfl h) fun _=>Ret.call (Ret.tells (P:=m=0∨m=1) ?_) (Ret.ifnc ?_ ?_)
 ·unfold F_103
  dsimp only
  refine Ret.ifd ?_ ?_ <;> intro e1
  ·exact Ret.ret (q14.2 (.inl e1))
  ·refine Ret.ret ?_
   rw [q17]
   exact ⟨.inr,fun h=>h.elim (fun h=>absurd h e1) id⟩
 ·intro e1
  rw [q19 e1]
  exact Ret.ret rfl
 intro e1
 rw [dec_of e1]
 refine Ret.bind (q762 hM hj hW hl ()) ?_
 rintro r (⟨h,rfl⟩ | ⟨h,e2⟩)
 ·rw [dec_of h]
  exact Ret.bif (fun h=>by cases h) fun _=>Ret.ret rfl
 ·rw [q19 h]
  refine Ret.bif (fun _=>Ret.ret rfl) fun h=>?_
  rw [e2] at h
  cases h
theorem q753 {s:Int} {l:List Int} (hl:l.length<4000000) (m:Int) (u:Unit):F_242 N (j,m,s,l,u)=some (implW j (rptW N j s l m)):=by
 refine Ret.eq ?_
 unfold F_242 rptW
 dsimp only
 refine Ret.call (q477 hM hj m (by simp) ()) ?_
 rcases q142 hM j with ⟨k,hk,e⟩ | ⟨o,T,e,hW⟩
 ·rw [e]
  exact Ret.ifd (fun h=>absurd h hk) fun _=>Ret.ret rfl
 rw [e]
 unfold q451
 rw [dec_of (show ∀ x∈([]:List Int),NodeP j.1 x from fun x hx=>by cases hx)]
 simp only [cond_true]
 by_cases e1:m=0∨m=1
 rotate_left
 ·rw [q19 e1]
  exact Ret.ifd (fun h=>by cases h) fun _=>Ret.ret rfl
 rw [dec_of e1]
 simp only [cond_true]
 refine Ret.ifd (fun _=>?_) fun h=>absurd trivial h
 refine Ret.call (q417 hM hj hW hl _) (Ret.ifnc ?_ ?_) <;> intro e2
 ·rw [q19 e2]
  exact Ret.ret rfl
 ·rw [dec_of e2]
  exact Ret.ret rfl
end
section
variable {N:Nat} (hM:1000000000000≤N) {j:DJob} (hj:SmallJ j) {o:List Int} {T:DTiming} (hW:WorkP N j o T)
include hM hj hW
theorem q101 (n:Int):(nodeT N j.1 n).length<9000002:=by
 have h:=q628 (N:=N) (by omega) hj.1 hW.blk (n.tdiv 2)
 rw [q336] at h
 unfold nodeT
 rw [List.length_append,q342]
 omega
theorem q718 (n:Nat):([B [58,114],B [58,102]]:List ByteArray)[((n:Int).tmod 2).toNat]?=some (B (edgeT n)):=by
 rw [show (n:Int).tmod 2=((n % 2:Nat):Int) from rfl,Int.toNat_natCast]
 unfold edgeT
 rw [show (n:Int).tmod 2=((n % 2:Nat):Int) from rfl]
 rcases (by omega:n % 2=0∨n % 2=1) with h | h <;> rw [h] <;> rfl
theorem q711 {n:Nat} (hn:n<nL j.1):IntKind.i64.wrap ((n:Int).tdiv 2)=((n / 2:Nat):Int)∧(n:Int).tdiv 2=((n / 2:Nat):Int)∧∃ p,(q11 j.1.2.1)[n / 2]?=some p:=by
 have h1:(n:Int).tdiv 2=((n / 2:Nat):Int):=by rw [Int.tdiv_eq_ediv_of_nonneg (by omega)]; omega
 have hpl:=q16 (few_of hW.blk.1)
 unfold nL at hn
 refine ⟨by rw [h1,wrapI (by omega) (by omega)],h1,_,List.getElem?_eq_getElem (by omega)⟩
theorem q261 {n:Nat} (hn:n<nL j.1) (u:Unit):F_245 N (some (viewOf j.1),(n:Int),u)=some (B (nodeT N j.1 n),()):=by
 obtain ⟨h1,h2,p,hp⟩:=q711 hM hj hW hn
 have hlen:=q101 hM hj hW n
 have hE:=q718 hM hj hW n
 obtain ⟨⟨r,v⟩,hr,_⟩:=q223 (N:=N) (u:=()) (by omega) hj.1 ((q104 hW.blk.1 p (List.mem_of_getElem? hp)).2)
 have hname:nameB N j.1 ((n:Int).tdiv 2)=r:=by
  unfold nameB
  rw [h2,Int.toNat_natCast,hp]
  dsimp only
  rw [hr]; rfl
 have hnt:nodeT N j.1 n=r.data.toList++edgeT n:=by unfold nodeT; rw [hname]
 refine Ret.eq ?_
 unfold F_245
 refine Ret.call rfl (Ret.call rfl (Ret.call rfl ?_))
 dsimp only
 rw [h1]
 refine q46 (by omega) (by rw [Int.toNat_natCast]; exact hp) (Ret.call hr ?_)
 dsimp only
 rw [show (⟨#[58,114]⟩:ByteArray)=B [58,114] from rfl,show (⟨#[58,102]⟩:ByteArray)=B [58,102] from rfl]
 rw [hnt,List.length_append] at hlen
 have h5:=q342 n
 refine Ret.guardZ (by rw [show (n:Int).tmod 2=((n % 2:Nat):Int) from rfl]; omega) (by rw [show (n:Int).tmod 2=((n % 2:Nat):Int) from rfl]; simp; omega) (Ret.call hE ?_)
 ·rw [← B_of r]
  simp only [B_app]
  refine Ret.guard (by simp only [B_size,limS]; omega) (Ret.ret ?_)
  rw [hnt]
theorem q163 {n:Nat} (hn:n<nL j.1) (u:Unit):F_110 N (j.1,(n:Int),u)=some (B (nodeT N j.1 n),()):=by
 obtain ⟨h1,h2,p,hp⟩:=q711 hM hj hW hn
 have hlen:=q101 hM hj hW n
 have hE:=q718 hM hj hW n
 have hpl:=q16 (few_of hW.blk.1)
 have hP:=q353 (N:=N) (u:=()) (by omega) hj.1 hW.blk (n:=((n / 2:Nat):Int)) (by omega) (by rw [Int.toNat_natCast]; exact hp)
 have hnt:nodeT N j.1 n=(nameB N j.1 ((n / 2:Nat):Int)).data.toList++edgeT n:=by unfold nodeT; rw [h2]
 refine Ret.eq ?_
 unfold F_110
 dsimp only
 refine Ret.call (q176 (by omega) hj.1) (Ret.ifnc (fun h=>absurd hW.blk h) fun _=>Ret.call (q108 (by omega) (few_of hW.blk.1)) (Ret.call (q20 _ _ _ _ _) (Ret.ifnc (fun h=>absurd ?_ h) fun _=>?_)))
 ·unfold nL at hn
  unfold BtwP
  dsimp only
  rw [wrapI (by omega) (by omega)]
  omega
 ·rw [h1]
  refine Ret.call hP ?_
  dsimp only
  rw [show (⟨#[58,114]⟩:ByteArray)=B [58,114] from rfl,show (⟨#[58,102]⟩:ByteArray)=B [58,102] from rfl]
  rw [hnt,List.length_append] at hlen
  have h5:=q342 n
  refine Ret.guardZ (by rw [show (n:Int).tmod 2=((n % 2:Nat):Int) from rfl]; omega) (by rw [show (n:Int).tmod 2=((n % 2:Nat):Int) from rfl]; simp; omega) (Ret.call hE ?_)
  ·rw [← B_of (nameB N j.1 ((n / 2:Nat):Int))]
   simp only [B_app]
   refine Ret.guard (by simp only [B_size,limS]; omega) (Ret.ret ?_)
   rw [hnt]
theorem q365 (a:DSpan) {m:Int} (hm:m=0∨m=1) (u:Unit):F_246 N (a,m,u)=some (modeV a m,()):=by
 unfold F_246 modeV
 rcases hm with rfl | rfl <;> rfl
theorem q326 {s:Int} {l:List Int} (hP:PathP j s l) {m:Int} (hm:m=0∨m=1) {i:Nat} (hi:i<l.length):(lineT N j T s l m i).length<9000200:=by
 have h1:=q101 hM hj hW (toI j.1 (l[i]?.getD 0))
 have h2:=q39 hM hj hW hP (i:=i+1) (by omega)
 have h3:=dly_at hM hj hW (hP.2 i hi).1
 have h4:BtwP (-1000000000) 1000000000 (modeV (arrV N j T s (l.take (i+1))) m):=by
  unfold SpanP at h2
  rcases hm with rfl | rfl
  ·exact h2.1
  ·exact h2.2.1
 have h5:BtwP (-1000000000) 1000000000 (modeV (dlyV N j T (l[i]?.getD 0)) m):=by
  rw [q13 hi]
  unfold dlyV
  unfold DlyB at h3
  unfold modeV BtwP
  rcases hm with rfl | rfl
  ·simp; omega
  ·simp; omega
 have h6:=time31 h4
 have h7:=time31 h5
 unfold lineT
 simp only [List.length_append,List.length_cons,List.length_nil,q529]
 omega
theorem q143 {s:Int} {l:List Int} (hP:PathP j s l) {m:Int} (hm:m=0∨m=1):∀ i,i≤l.length→(linesT N j T s l m i).length≤i * 9000200
 | 0,_=>by simp [linesT]
 | i+1,hi=>by
  have h1:=q143 hP hm i (by omega)
  have h2:=q326 hM hj hW hP hm (i:=i) (by omega)
  rw [q150,List.length_append]
  omega
theorem q459 {s:Int} {l:List Int} (hP:PathP j s l) {m:Int} (hm:m=0∨m=1):(headT N j T s l m).length<9000200:=by
 have h1:=q101 hM hj hW s
 have h2:=q39 hM hj hW hP (i:=0) (by omega)
 have h4:BtwP (-1000000000) 1000000000 (modeV (arrV N j T s (l.take 0)) m):=by
  unfold SpanP at h2
  rcases hm with rfl | rfl
  ·exact h2.1
  ·exact h2.2.1
 have h6:=time31 h4
 have h7:=q350 m
 unfold headT
 simp only [List.length_append,List.length_cons,List.length_nil]
 omega
theorem q598 {x:Int} (hx:LinkI j.1 x) (m:Int) (u:Unit):F_112 N (some (q160 j T),x,m,u)=some (modeV (dlyV N j T x) m,()):=by
 obtain ⟨k,hk,ek,hlk,f,t,hf,ht,hf2,ht2,hfr,hto⟩:=lk_at hM hj hW hx
 obtain ⟨hfl,eg,hw⟩:=q424 hM hj hW hf2
 obtain ⟨_,_,hsp⟩:=q110 hM hW.blk hk j.2.1 hw
 have e:dlyV N j T x=(spanV N j.1 j.2.1 k T.2.2.1[f]).1:=by
  unfold dlyV
  rw [hfr,Int.toNat_natCast,eg,ek,Int.toNat_natCast]
 rw [e]
 refine Ret.eq ?_
 unfold F_112
 refine Ret.call rfl ?_
 dsimp only
 rw [ek]
 refine Ret.atN hk (Ret.call rfl (Ret.call rfl (Ret.call rfl ?_)))
 dsimp only
 rw [hf]
 refine Ret.atN hfl (Ret.call (hsp ()) ?_)
 refine Ret.call (a:=(modeV (spanV N j.1 j.2.1 k T.2.2.1[f]).1 m,())) ?_ (Ret.ret rfl)
 unfold F_111 modeV
 dsimp only
 by_cases e:m=1
 ·rw [decide_eq_true e,if_pos e]; rfl
 ·rw [decide_eq_false e,if_neg e]; rfl
theorem q96 {s:DSpan} (h:SpanP s) (m:Int):BtwP (-1000000000) 1000000000 (modeV s m):=by
 unfold modeV
 split
 ·exact h.2.1
 ·exact h.1
theorem dly_bd {x:Int} (hx:LinkI j.1 x) (m:Int):BtwP (-1000000000) 1000000000 (modeV (dlyV N j T x) m):=by
 have h3:=dly_at hM hj hW hx
 unfold DlyB at h3
 unfold dlyV modeV BtwP
 split <;> omega
theorem q528 {k:Nat} (hk:k<(linksL j.1).length):(linksL j.1)[k].2.2.1=1∨(linksL j.1)[k].2.2.1=2:=by
 obtain ⟨_,_,_,_,_,_,_,_,_,_,_,h⟩:=q425 hW.blk (List.getElem_mem hk)
 exact h.imp (fun h=>h.1) fun h=>h.1
theorem q589 {s:Int} {l:List Int} {m:Int} {i:Nat} (hi:i<l.length) {k:Nat} (hk:k<(linksL j.1).length) (ek:l[i]=(k:Int)):lineT N j T s l m i=linkT (linksL j.1)[k].2.2.1++[32]++nodeT N j.1 (toI j.1 l[i])++[32]++timeL (modeV (dlyV N j T l[i]) m)++[32]++timeL (modeV (arrV N j T s (l.take (i+1))) m)++[10]:=by
 unfold lineT
 rw [q13 hi,ek,Int.toNat_natCast,← lkK_at hk]
theorem q584 {s:Int} {l:List Int} (hl:l.length<4000000) (hP:PathP j s l) {m:Int} (hm:m=0∨m=1) (u:Unit):F_249 N (some (q161 j o T),s,l,m,u)=some (B (rptT N j T s l m),()):=by
 have hN:4000000≤N:=by omega
 obtain ⟨n,en,hn,_⟩:=q429 hM hj hW hP 0 (Nat.zero_le _)
 have en:s=(n:Int):=en
 have hsl:((List.range (l.length+1)).map (fun i=>arrV N j T s (l.take i))).length=l.length+1:=by rw [List.length_map,List.length_range]
 have hmw:q62[m.toNat]?=some (B (modeT m)):=by rcases hm with rfl | rfl <;> rfl
 have c0:(⟨#[10,115,116,97,114,116,32]⟩:ByteArray)=B [10,115,116,97,114,116,32]:=rfl
 have c1:(⟨#[32]⟩:ByteArray)=B [32]:=rfl
 have c2:(⟨#[10]⟩:ByteArray)=B [10]:=rfl
 have c3:(⟨#[101,110,100,32]⟩:ByteArray)=B [101,110,100,32]:=rfl
 have hml:=q350 m
 have hnl:=q101 hM hj hW s
 have hh:=q459 hM hj hW hP hm
 have t0:=time31 (q96 hM hj hW (q39 hM hj hW hP (i:=0) (Nat.zero_le _)) m)
 refine Ret.eq ?_
 unfold F_249
 refine Ret.call (q735 hM hj hW hl hP ()) ?_
 dsimp only
 refine Ret.guard2 (by omega) ?_
 rw [hmw]
 refine Ret.call rfl ?_
 rw [c0]
 simp only [B_app]
 refine Ret.guard (by simp only [B_size,limS,List.length_append,List.length_cons,List.length_nil]; omega) (Ret.call rfl (Ret.call rfl ?_))
 refine Ret.call (a:=(B (nodeT N j.1 s),())) (by rw [en]; exact q261 hM hj hW hn ()) ?_
 dsimp only
 rw [c1]
 simp only [B_app]
 iterate 2 refine Ret.guard (by simp only [B_size,limS,List.length_append,List.length_cons,List.length_nil]; omega) ?_
 refine Ret.guardI (i:=0) (by rw [hsl]; omega) (Ret.get (i:=0) (by rw [hsl]; omega) ?_)
 rw [List.getElem_map,List.getElem_range]
 refine Ret.call (q365 hM hj hW _ hm _) (Ret.call (q89 hN (q96 hM hj hW (q39 hM hj hW hP (i:=0) (Nat.zero_le _)) m)) ?_)
 dsimp only
 rw [c2]
 simp only [B_app]
 iterate 2 refine Ret.guard (by simp only [B_size,limS,List.length_append,List.length_cons,List.length_nil]; omega) ?_
 refine Ret.upM 0 l.length (fun i s' _=>s'=B (headT N j T s l m++linesT N j T s l m i)) (by omega) (by omega) (by omega) ?_ ?_ ?_
 ·simp [headT,linesT,B]
 ·rintro i s' v next _ hi rfl hnx
  dsimp only
  have hLs:=q143 hM hj hW hP hm i (by omega)
  have hx:=(hP.2 i hi).1
  obtain ⟨k,hk,ek,hlk,f,t,hf,ht,hf2,ht2,hfr,hto⟩:=lk_at hM hj hW hx
  have hw:IntKind.i64.wrap ((i:Int)+1)=((i+1:Nat):Int):=by rw [wrapI (by omega) (by omega)]; omega
  have hkind:=q528 hM hj hW hk
  have hll:=q326 hM hj hW hP hm hi
  have hle:=q589 hM hj hW (s:=s) (m:=m) hi hk ek
  have hkw:q59[(linksL j.1)[k].2.2.1.toNat]?=some (B (linkT (linksL j.1)[k].2.2.1)):=by rcases hkind with h | h <;> rw [h] <;> rfl
  have hstep:=q689 hM hj hW hP hi
  have hd:IntKind.i64.wrap (modeV (arrV N j T s (l.take (i+1))) m - modeV (arrV N j T s (l.take i)) m)=modeV (dlyV N j T l[i]) m:=by
   have hb:=dly_bd hM hj hW hx m
   unfold BtwP at hb
   have e:modeV (arrV N j T s (l.take (i+1))) m - modeV (arrV N j T s (l.take i)) m=modeV (dlyV N j T l[i]) m:=by
    rw [hstep]
    unfold dlyV modeV
    split <;> dsimp only <;> omega
   rw [e,wrapI (by omega) (by omega)]
  have hnl2:=q101 hM hj hW (toI j.1 l[i])
  have t1:=time31 (q96 hM hj hW (q39 hM hj hW hP (i:=i+1) (by omega)) m)
  have t2:=time31 (dly_bd hM hj hW hx m)
  have hkl:=q529 (linksL j.1)[k].2.2.1
  rw [hw] at hnx ⊢
  refine Ret.must (by omega) (Ret.atN hi (Ret.call rfl (Ret.call rfl (Ret.call rfl ?_))))
  dsimp only
  rw [ek]
  refine Ret.atN hk (Ret.guardI (by rw [hsl]; omega) ?_)
  rw [Int.toNat_natCast]
  refine Ret.get (by rw [hsl]; omega) ?_
  rw [List.getElem_map,List.getElem_range]
  refine Ret.call (q365 hM hj hW _ hm _) (Ret.guardI (by rw [hsl]; omega) ?_)
  rw [Int.toNat_natCast]
  refine Ret.get (by rw [hsl]; omega) ?_
  rw [List.getElem_map,List.getElem_range]
  refine Ret.call (q365 hM hj hW _ hm _) (Ret.guard2 (by omega) ?_)
  rw [hkw]
  refine Ret.call rfl ?_
  dsimp only
  rw [hd]
  simp only [B_app]
  refine Ret.guard (by simp only [B_size,limS,List.length_append,List.length_cons,List.length_nil]; omega) (Ret.call rfl (Ret.call rfl ?_))
  refine Ret.call (a:=(B (nodeT N j.1 (toI j.1 l[i])),())) (by rw [hto,ht]; exact q261 hM hj hW ht2 ()) ?_
  dsimp only
  simp only [B_app]
  iterate 2 refine Ret.guard (by simp only [B_size,limS,List.length_append,List.length_cons,List.length_nil]; omega) ?_
  refine Ret.call (q89 hN (dly_bd hM hj hW hx m)) ?_
  dsimp only
  simp only [B_app]
  iterate 2 refine Ret.guard (by simp only [B_size,limS,List.length_append,List.length_cons,List.length_nil]; omega) ?_
  refine Ret.guardI (by rw [hsl]; omega) (Ret.get (by rw [hsl]; omega) ?_)
  rw [List.getElem_map,List.getElem_range]
  refine Ret.call (q365 hM hj hW _ hm _) (Ret.call (q89 hN (q96 hM hj hW (q39 hM hj hW hP (i:=i+1) (by omega)) m)) ?_)
  dsimp only
  simp only [B_app]
  iterate 3 refine Ret.guard (by simp only [B_size,limS,List.length_append,List.length_cons,List.length_nil]; omega) ?_
  refine hnx _ _ ?_
  rw [q150,hle]
  simp [B]
 ·rintro s' v next rfl
  dsimp only
  have hLs:=q143 hM hj hW hP hm l.length (Nat.le_refl _)
  have t1:=time31 (q96 hM hj hW (q39 hM hj hW hP (i:=l.length) (Nat.le_refl _)) m)
  rw [c3]
  simp only [B_app]
  refine Ret.mustN (by omega) (Ret.guard (by simp only [B_size,limS,List.length_append,List.length_cons,List.length_nil]; omega) (Ret.guardI (by rw [hsl]; omega) ?_))
  rw [Int.toNat_natCast]
  refine Ret.get (by rw [hsl]; omega) ?_
  rw [List.getElem_map,List.getElem_range]
  refine Ret.call (q365 hM hj hW _ hm _) (Ret.call (q89 hN (q96 hM hj hW (q39 hM hj hW hP (i:=l.length) (Nat.le_refl _)) m)) ?_)
  dsimp only
  simp only [B_app]
  iterate 2 refine Ret.guard (by simp only [B_size,limS,List.length_append,List.length_cons,List.length_nil]; omega) ?_
  refine Ret.ret ?_
  rw [List.take_length]
  simp [rptT,B]
theorem q561 {s:Int} {l:List Int} (hl:l.length<4000000) (hP:PathP j s l) {m:Int} (hm:m=0∨m=1) (u:Unit):F_116 N (some (q160 j T),s,l,m,u)=some (B (rptT N j T s l m),()):=by
 have hN:4000000≤N:=by omega
 obtain ⟨n,en,hn,_⟩:=q429 hM hj hW hP 0 (Nat.zero_le _)
 have en:s=(n:Int):=en
 have c0:(⟨#[115,116,97,114,116,32]⟩:ByteArray)=B [115,116,97,114,116,32]:=rfl
 have c1:(⟨#[32]⟩:ByteArray)=B [32]:=rfl
 have c2:(⟨#[10]⟩:ByteArray)=B [10]:=rfl
 have c3:(⟨#[101,110,100,32]⟩:ByteArray)=B [101,110,100,32]:=rfl
 have c4:(⟨#[119,105,114,101,32]⟩:ByteArray)=B [119,105,114,101,32]:=rfl
 have c5:(⟨#[99,101,108,108,32]⟩:ByteArray)=B [99,101,108,108,32]:=rfl
 have hml:=q350 m
 have hnl:=q101 hM hj hW s
 have hh:=q459 hM hj hW hP hm
 have t0:=time31 (q96 hM hj hW (q39 hM hj hW hP (i:=0) (Nat.zero_le _)) m)
 have hT:∀ i,PathP j s (l.take i):=fun i=>⟨hP.1,hP.2.take i⟩
 have hTl:∀ i,(l.take i).length<4000000:=fun i=>by rw [List.length_take]; omega
 have hmw:[(⟨#[101,97,114,108,121]⟩:ByteArray),(⟨#[108,97,116,101]⟩:ByteArray)][m.toNat]?=some (B (modeT m)):=by rcases hm with rfl | rfl <;> rfl
 refine Ret.eq ?_
 unfold F_116
 dsimp only
 refine Ret.guardZ (by omega) (by simp; omega) ?_
 rw [hmw]
 refine Ret.call rfl ?_
 rw [c2,c0]
 simp only [B_app]
 iterate 2 refine Ret.guard (by simp only [B_size,limS,List.length_append,List.length_cons,List.length_nil]; omega) ?_
 refine Ret.call rfl (Ret.call (a:=(B (nodeT N j.1 s),())) (by rw [en]; exact q163 hM hj hW hn ()) ?_)
 dsimp only
 rw [c1]
 simp only [B_app]
 iterate 2 refine Ret.guard (by simp only [B_size,limS,List.length_append,List.length_cons,List.length_nil]; omega) ?_
 refine Ret.call (q127 hM hj hW (hTl 0) (hT 0) m _) (Ret.call (q58 hN (q96 hM hj hW (q39 hM hj hW hP (i:=0) (Nat.zero_le _)) m)) ?_)
 dsimp only
 simp only [B_app]
 iterate 2 refine Ret.guard (by simp only [B_size,limS,List.length_append,List.length_cons,List.length_nil]; omega) ?_
 refine Ret.upM 0 l.length (fun i s' _=>s'=B (headT N j T s l m++linesT N j T s l m i)) (by omega) (by omega) (by omega) ?_ ?_ ?_
 ·simp [headT,linesT,B]
 ·rintro i s' v next _ hi rfl hnx
  dsimp only
  have hLs:=q143 hM hj hW hP hm i (by omega)
  have hx:=(hP.2 i hi).1
  obtain ⟨k,hk,ek,hlk,f,t,hf,ht,hf2,ht2,hfr,hto⟩:=lk_at hM hj hW hx
  have hw:IntKind.i64.wrap ((i:Int)+1)=((i+1:Nat):Int):=by rw [wrapI (by omega) (by omega)]; omega
  have hkind:=q528 hM hj hW hk
  have hll:=q326 hM hj hW hP hm hi
  have hle:=q589 hM hj hW (s:=s) (m:=m) hi hk ek
  have hnl2:=q101 hM hj hW (toI j.1 l[i])
  have t1:=time31 (q96 hM hj hW (q39 hM hj hW hP (i:=i+1) (by omega)) m)
  have t2:=time31 (dly_bd hM hj hW hx m)
  rw [hw] at hnx ⊢
  refine Ret.must (by omega) (Ret.call rfl (Ret.atN hi ?_))
  dsimp only
  rw [ek]
  refine Ret.atN hk (Ret.ifd ?_ ?_) <;> intro e1
  ·have hkt:linkT (linksL j.1)[k].2.2.1=[119,105,114,101]:=by unfold linkT; rw [if_pos e1]
   rw [c4]
   simp only [B_app]
   refine Ret.guard (by simp only [B_size,limS,List.length_append,List.length_cons,List.length_nil]; omega) (Ret.call rfl ?_)
   refine Ret.call (a:=(B (nodeT N j.1 (toI j.1 l[i])),())) (by rw [hto,ht]; exact q163 hM hj hW ht2 ()) ?_
   dsimp only
   simp only [B_app]
   iterate 2 refine Ret.guard (by simp only [B_size,limS,List.length_append,List.length_cons,List.length_nil]; omega) ?_
   refine Ret.atN hi (Ret.call (q598 hM hj hW hx m _) (Ret.call (q58 hN (dly_bd hM hj hW hx m)) ?_))
   dsimp only
   simp only [B_app]
   iterate 2 refine Ret.guard (by simp only [B_size,limS,List.length_append,List.length_cons,List.length_nil]; omega) ?_
   refine Ret.guard3 ⟨by omega,by omega,by omega⟩ ?_
   simp only [Int.toNat_natCast,Int.toNat_zero,List.drop_zero]
   refine Ret.call (q127 hM hj hW (hTl (i+1)) (hT (i+1)) m _) (Ret.call (q58 hN (q96 hM hj hW (q39 hM hj hW hP (i:=i+1) (by omega)) m)) ?_)
   dsimp only
   simp only [B_app]
   iterate 2 refine Ret.guard (by simp only [B_size,limS,List.length_append,List.length_cons,List.length_nil]; omega) ?_
   refine hnx _ _ ?_
   rw [q150,hle,hkt]
   simp [B]
  ·have hkt:linkT (linksL j.1)[k].2.2.1=[99,101,108,108]:=by unfold linkT; rw [if_neg e1]
   rw [c5]
   simp only [B_app]
   refine Ret.guard (by simp only [B_size,limS,List.length_append,List.length_cons,List.length_nil]; omega) (Ret.call rfl ?_)
   refine Ret.call (a:=(B (nodeT N j.1 (toI j.1 l[i])),())) (by rw [hto,ht]; exact q163 hM hj hW ht2 ()) ?_
   dsimp only
   simp only [B_app]
   iterate 2 refine Ret.guard (by simp only [B_size,limS,List.length_append,List.length_cons,List.length_nil]; omega) ?_
   refine Ret.atN hi (Ret.call (q598 hM hj hW hx m _) (Ret.call (q58 hN (dly_bd hM hj hW hx m)) ?_))
   dsimp only
   simp only [B_app]
   iterate 2 refine Ret.guard (by simp only [B_size,limS,List.length_append,List.length_cons,List.length_nil]; omega) ?_
   refine Ret.guard3 ⟨by omega,by omega,by omega⟩ ?_
   simp only [Int.toNat_natCast,Int.toNat_zero,List.drop_zero]
   refine Ret.call (q127 hM hj hW (hTl (i+1)) (hT (i+1)) m _) (Ret.call (q58 hN (q96 hM hj hW (q39 hM hj hW hP (i:=i+1) (by omega)) m)) ?_)
   dsimp only
   simp only [B_app]
   iterate 2 refine Ret.guard (by simp only [B_size,limS,List.length_append,List.length_cons,List.length_nil]; omega) ?_
   refine hnx _ _ ?_
   rw [q150,hle,hkt]
   simp [B]
 ·rintro s' v next rfl
  dsimp only
  have hLs:=q143 hM hj hW hP hm l.length (Nat.le_refl _)
  have t1:=time31 (q96 hM hj hW (q39 hM hj hW hP (i:=l.length) (Nat.le_refl _)) m)
  rw [List.take_length] at t1
  have hsp:=q39 hM hj hW hP (i:=l.length) (Nat.le_refl _)
  rw [List.take_length] at hsp
  rw [c3]
  simp only [B_app]
  refine Ret.mustN (by omega) (Ret.guard (by simp only [B_size,limS,List.length_append,List.length_cons,List.length_nil]; omega) ?_)
  refine Ret.call (q127 hM hj hW hl hP m _) (Ret.call (q58 hN (q96 hM hj hW hsp m)) ?_)
  dsimp only
  simp only [B_app]
  iterate 2 refine Ret.guard (by simp only [B_size,limS,List.length_append,List.length_cons,List.length_nil]; omega) ?_
  refine Ret.ret ?_
  simp [rptT,B]
end
section
variable {N:Nat} (hM:1000000000000≤N) {j:DJob} (hj:SmallJ j) {s:Int} {l:List Int} (hl:l.length<4000000)
include hM hj hl
theorem q368 (m:Int) (u:Unit):F_117 N (j,s,l,m,u)=some (rptR N j s l m (rptW N j s l m)):=by
 refine Ret.eq ?_
 unfold F_117
 refine Ret.call (q763 hM hj hl m u) ?_
 rcases q391 hM j s l m with ⟨k,hk,e⟩ | ⟨o,T,e,hW,hP,hm⟩
 ·rw [e]
  exact Ret.ifnd (fun _=>Ret.ret rfl) fun h=>absurd h hk
 rw [e]
 exact Ret.ifnd (fun h=>absurd rfl h) fun _=>Ret.call (q561 hM hj hW hl hP hm u) (Ret.ret rfl)
theorem q339 (m:Int) (u:Unit):F_250 N (j,s,l,m,u)=some (rptR N j s l m (rptW N j s l m)):=by
 refine Ret.eq ?_
 unfold F_250
 refine Ret.call (q753 hM hj hl m ()) ?_
 rcases q391 hM j s l m with ⟨k,hk,e⟩ | ⟨o,T,e,hW,hP,hm⟩
 ·rw [e]
  exact Ret.ifnd (fun _=>Ret.ret rfl) fun h=>absurd h hk
 rw [e]
 exact Ret.ifnd (fun h=>absurd rfl h) fun _=>Ret.call (q584 hM hj hW hl hP hm u) (Ret.ret rfl)
end
end Go.Proofs.YtegkebdjikhgmaaGreatDoor
namespace Go.Proofs.YtegkebdjikhgmaaGreatDoor
set_option linter.unusedSimpArgs false
set_option linter.unusedVariables false
open Go.Lib Go.RowKit
theorem q579 {H:Type} {enc:TypeId×Value→H} {P:Program} {w:World} {base:Nat} {sp:Nat→Bool} {held:Bool} {fuel:Nat} {t e:TypeId} {n:Nat} {cs:List Value} {zs:List ByteArray} {p:List MemPlace}
 (ht:P.underlying t=some (.array n e)) (he:P.underlying e=some .string) (hce:P.cellsOf e=1) (hct:P.cellsOf t=n)
 (h:DataW.trod enc P w base sp held fuel t cs=some (.agg (zs.map fun z => .lit (.string z.data.toList)),p)):cs=zs.map (fun z=>Value.string z)∧∀ z∈zs,z.size≤maxLen:=by
 cases fuel with
 | zero=>simp [DataW.trod] at h
 | succ fuel=>
  simp only [DataW.trod,ht,hce,hct,Nat.mul_one] at h
  split at h
  ·rename_i hl
   obtain ⟨xs,hm,hx⟩:=Option.map_eq_some_iff.1 h
   have hxs:xs.map (·.1)=zs.map fun z=>(DataW.lit (.string z.data.toList):DataW H):=by
    have:=congrArg Prod.fst hx
    simpa using this
   have hxl:xs.length=n:=by simpa using mapM_length hm
   have hzl:zs.length=n:=by
    have:=congrArg List.length hxs
    simp at this
    omega
   have at_i:∀ i,i<n→∃ z:ByteArray,zs[i]?=some z∧cs[i]?=some (.string z)∧z.size≤maxLen:=by
    intro i hi
    obtain ⟨b,hb,hf⟩:=mapM_at hm i i (by simp [hi])
    obtain ⟨z,hc,rfl,hsz⟩:=DataW.trod_string he hf
    have h1:cs[i]?=some (.string z):=by
     have:=congrArg (·[0]?) hc
     simpa [List.getElem?_take,List.getElem?_drop] using this
    have h2:(xs.map (·.1))[i]?=some (DataW.lit (.string z.data.toList):DataW H):=by simp [hb]
    rw [hxs] at h2
    simp only [List.getElem?_map,Option.map_eq_some_iff,DataW.lit.injEq,Lit.string.injEq] at h2
    obtain ⟨z',hz',hzz⟩:=h2
    have:z'=z:=by cases z'; cases z; simp at hzz; simp [hzz]
    subst this
    exact ⟨z',hz',h1,hsz⟩
   refine ⟨?_,fun z hz=>?_⟩
   ·apply List.ext_getElem?
    intro i
    by_cases hi:i<n
    ·obtain ⟨z,hz,hc,_⟩:=at_i i hi
     simp [hc,hz]
    ·rw [List.getElem?_eq_none (by omega),List.getElem?_eq_none (by simp; omega)]
   ·obtain ⟨i,hi,rfl⟩:=List.getElem_of_mem hz
    obtain ⟨z',hz',_,hsz⟩:=at_i i (by omega)
    rw [List.getElem?_eq_getElem hi] at hz'
    cases hz'
    exact hsz
  ·cases h
theorem q172 {P:Program} {x:String×DataW Unit} {r:List (String×DataW Unit)} {w:World} (h:laidMet P (x :: r) w):laidMet P r w:=by
 obtain ⟨ps,⟨g,t,cs,fuel,p,q,_,_,_,_,h1,rfl⟩,hnd,hc⟩:=h
 exact ⟨q,h1,(List.nodup_append.1 hnd).2.1,fun b off hm=>hc b off (List.mem_append_right _ hm)⟩
theorem q208 {P:Program} {W:World} {name:String} {zs:List ByteArray} {rest:List (String×DataW Unit)} {g:Nat} {t e:TypeId} {n:Nat}
 (hg:P.globalNamed name=some g) (hty:(P.globals[g]?).map (·.type)=some t) (ht:P.underlying t=some (.array n e)) (he:P.underlying e=some .string) (hce:P.cellsOf e=1) (hct:P.cellsOf t=n)
 (h:laidMet P ((name,.agg (zs.map fun z => .lit (.string z.data.toList))) :: rest) W):∀ w',Below W.heap.size W w'→TabsAt [(g,zs)] w':=by
 obtain ⟨ps,⟨g',t',cs,fuel,p,q,hg',ht',hvar,hd,_,_⟩,_⟩:=h
 obtain rfl:=Option.some.inj (hg.symm.trans hg')
 obtain rfl:=Option.some.inj (hty.symm.trans ht')
 obtain ⟨hcs,hsz⟩:=q579 ht he hce hct hd
 intro w' hb g2 xs hx i s hs
 have hlt:g<W.heap.size:=by
  rcases Nat.lt_or_ge g W.heap.size with h' | h'
  ·exact h'
  ·unfold World.var? at hvar
   rw [hg,Option.bind_some,Array.getElem?_eq_none h'] at hvar; simp at hvar
 have hg2:g=g2∧zs=xs:=by
  simp only [q178] at hx
  cases hb:Nat.beq g g2 with
  | true=>rw [hb,cond_true] at hx; exact ⟨Nat.eq_of_beq_eq_true hb,Option.some.inj hx⟩
  | false=>rw [hb,cond_false] at hx; cases hx
 obtain ⟨rfl,rfl⟩:=hg2
 refine ⟨fun j u hj=>?_,hsz s (List.mem_of_getElem? hs)⟩
 match j,hj with
 | 0,hj=>
  simp only [List.getElem?_cons_zero,Option.some.injEq] at hj
  subst hj
  have h1:=World.var?_cell hg hvar i
  have h2:cs[i]?=some (.string s):=by
   have:cs.toList[i]?=some (.string s):=by rw [hcs,List.getElem?_map,hs]; rfl
   simpa using this
  rw [h2] at h1
  have:w'.cell? ⟨g,i+0,none⟩=W.cell? ⟨g,i,none⟩:=by
   simp only [World.cell?,hb.block g hlt,Nat.add_zero]
  rw [this,h1]
 | j+1,hj=>simp at hj
theorem q640 {a b:Nat} {xs ys:List ByteArray} {w:World} (h1:TabsAt [(a,xs)] w) (h2:TabsAt [(b,ys)] w):TabsAt [(a,xs),(b,ys)] w:=by
 intro g zs hz
 simp only [q178] at hz
 cases hb:Nat.beq a g with
 | true=>
  rw [hb,cond_true] at hz
  exact h1 g zs (by simp only [q178]; rw [hb,cond_true]; exact hz)
 | false=>
  rw [hb,cond_false] at hz
  exact h2 g zs (by simp only [q178]; exact hz)
theorem q760 {H:Type} {enc:TypeId×Value→H} {P:Program} {w:World} {sp:Nat→Bool} {a b:String} {gs:List (DataW H)} {ps:List MemPlace} (h:DataW.TrodVars enc P w sp [a,b] gs ps):∃ x y,gs=[x,y]:=by
 cases gs with
 | nil=>simp [DataW.TrodVars] at h
 | cons d ds=>
  obtain ⟨_,_,_,_,p,q,_,_,_,_,hs,_⟩:=h
  obtain ⟨_,_,_,_,d',_,rfl,_⟩:=Go.ChangeShapes.trodVars_one hs
  exact ⟨d,d',rfl⟩
theorem q582 {W : World} (h1 : TabIs Tryz.prog W "internal/strconv.uint64pow10" .u64 pow10Tab) (h2 : ∀ w', Below W.heap.size W w' → TabsAt [(0, q62), (1, q59)] w') : PRE W := fun w' hb => ⟨tabBelow_of_tabIs h1 w' hb, h2 w' hb⟩
end Go.Proofs.YtegkebdjikhgmaaGreatDoor
