/- Loads and delays of wires: both sides. No program in sight. Values of tables: both sides. No program in sight. Links: both sides. No program in sight. -/
import Derived.Test.YtefbaonpbemejabGreatDoorPgX
namespace Go.Proofs.YtefbaonpbemejabGreatDoor
set_option linter.unusedSimpArgs false
set_option linter.unusedVariables false
set_option linter.unusedSectionVars false
set_option maxHeartbeats 1000000
section
variable {b:DBlock} (hb:BlockP b) {k:Nat} (hk:k<b.2.2.1.length)
include hb hk
end
section
variable {N:Nat} (hN:HN N) {u:Unit} {b:DBlock} (hs:SmallB b) (hb:BlockP b) {k:Nat} (hk:k<b.2.2.1.length)
include hN hb hk
end
def clampA(l:List Int)(x:Int):Int:=bif decide (l[l.length - 1]?.getD 0<(bif decide (x<l[0]?.getD 0) then l[0]?.getD 0 else x)) then l[l.length - 1]?.getD 0 else (bif decide (x<l[0]?.getD 0) then l[0]?.getD 0 else x)
def WtP(l:List Int)(c:Int)(i:Nat)(a d:Int):Prop:=i<l.length/\((a=1/\d=0/\l[i]?.getD 0=c)\/(i+1<l.length/\l[i]?.getD 0<c/\c<l[i+1]?.getD 0/\a=l[i+1]?.getD 0 - c/\d=c - l[i]?.getD 0))
section
variable {N:Nat} (hN:HN N) {u:Unit}
include hN
end
section
variable {t:DTable} (hT:TableP t) {x y:Int} {i k:Nat} {a d c e:Int} (h1:WtP t.1 (clampA t.1 x) i a d) (h2:WtP t.2.1 (clampA t.2.1 y) k c e)
include hT
include h1 h2
end
section
variable {N:Nat} (hN:HN N) {u:Unit} {t:DTable} (hT:TableP t)
include hN hT
end
def offI(b:DBlock)(i:Nat):Nat:=(q35 (b.2.1.1.take i)).length
theorem q676(xs:List DInstance)(i:Nat):∃ r,q35 xs=q35 (xs.take i)++r:=by
 refine ⟨((xs.drop i).mapIdx fun k x=>instPl (k+(xs.take i).length) x.2.2.1).flatten,?_⟩;unfold q35
 conv=>lhs; rw[<- bf i xs,List.mapIdx_append,List.flatten_append]
theorem q425(i:Nat)(nets:List Int):(instPl i nets).length=nets.length:=by simp[instPl]
theorem q721{b:DBlock}{i q:Nat}(hi:i<b.2.1.1.length)(hq:q<b.2.1.1[i].2.2.1.length):(q14 b.2.1)[offI b i+q]?=some ((i:Int),(q:Int),b.2.1.1[i].2.2.1[q],decide (q+1=b.2.1.1[i].2.2.1.length),()):=by obtain ⟨r,hr⟩:=q676 b.2.1.1 (i+1);unfold q14;rw[hr,q100 hi,bt,bt];unfold offI;rw[aM (by omega),bE,aH (by rw[q425]; exact hq)];simp[instPl,hq]
theorem q691(xs:List DInstance):∀ m,m<=xs.length->∀ r,r<(q35 (xs.take m)).length->∃ (j:Nat) (hj:j<xs.length) (q:Nat),q<xs[j].2.2.1.length/\r=(q35 (xs.take j)).length+q
 | 0,_,r,h=>absurd h (by simp[q35])
 | m+1,hm,r,h=>by
  by_cases hr:r<(q35 (xs.take m)).length
  .exact q691 xs m (by omega) r hr
  .rw[q100 (by omega),aY,q425] at h;exact ⟨m,by omega,r - (q35 (xs.take m)).length,by omega,by omega⟩
def fitsA(a:DArc)(p q:Int):Bool:=bif decide (a.1=1) then decide (a.2.2.2.1=3) || (decide (a.2.2.2.1=1) == decide (p=q)) else bif decide (a.1=2) then decide (p=0) else bif decide (a.1=3) then decide (p=1) else false
abbrev twoL:List Int:=[0,1]
def trans(a:DArc):List (Int×Int×Unit):=twoL.flatMap fun p=>(twoL.filter (fitsA a p)).map fun q=>(p,q,())
section
variable {b:DBlock} (hb:BlockP b)
include hb
end
section
variable {N:Nat} (hN:HN N) {u:Unit} {b:DBlock}
variable (hb:BlockP b)
include hN hb
end
end Go.Proofs.YtefbaonpbemejabGreatDoor
