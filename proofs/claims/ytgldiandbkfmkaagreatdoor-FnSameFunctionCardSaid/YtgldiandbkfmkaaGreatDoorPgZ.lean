/- The reference's draws: what they hand back is small. No program in sight. The reference's draws of libraries and designs: what they hand back is small. No program in sight. The reference's draws of wires and blocks: what they hand back is small. No program in sight. The reference's draws of the logic's chapter: they end,and what they hand back is small. No program in sight. The reference's draws of activities: they end,and what they hand back is small. No program in sight. What the laws of the logic's chapter share. No program in sight. A net's probability over more sources than it leans on. No program in sight. Sums over all values of the sources: means,bounds,independence. No program in sight. The interval of a net holds its probability. No program in sight. A tree-like net's chance is its probability. No program in sight. Densities,their bound,their parts. No program in sight. -/
import Derived.Test.YtgldiandbkfmkaaGreatDoorPgX
import Derived.Test.YtgldiandbkfmkaaGreatDoorPgY
import Derived.Test.YtgldiandbkfmkaaGreatDoorPgF
namespace Go.Proofs.YtgldiandbkfmkaaGreatDoor
set_option linter.unusedSimpArgs false
set_option linter.unusedVariables false
set_option linter.unusedSectionVars false
set_option maxHeartbeats 1000000
abbrev Src:Type:=List Int×Int×Int×Unit
def SrcP(s:Src):Prop:=(0<=s.2.1/\s.1.length<4000000)/\(0<=s.2.2.1/\s.2.2.1<2147483647)/\∀ b∈s.1,BtwP 0 255 b
section
variable {N:Nat} (hN:HN N) {u:Unit}
theorem tmodB{a b:Int}(h0:0<=a)(hb:0<b):0<=a.tmod b/\a.tmod b<b:=⟨Int.tmod_nonneg b h0,Int.tmod_lt_of_pos a hb⟩
theorem q12{s:Src}(h:SrcP s)(n:Int):Ret (F_1 N (s,n,u)) (fun r=>(0<=r.1.1/\(r.1.1=0\/r.1.1<n))/\SrcP r.2):=by
 obtain ⟨code,at0,seed,u0⟩:=s;obtain ⟨⟨h1,h2⟩,⟨h3,h4⟩,h5⟩:=h;dsimp only at h1 h2 h3 h4 h5;unfold F_1;dsimp only;refine rf (fun hn=>rb ⟨⟨Int.le_refl _,.inl rfl⟩,⟨h1,h2⟩,⟨h3,h4⟩,h5⟩) fun hn=>rf (fun ha=>?_) fun ha=>?_
 .have hlt:at0.toNat<code.length:=by omega
  refine vd h1 hlt ?_;have hb:=h5 _ (aR hlt);unfold BtwP at hb;generalize code[at0.toNat]=e at hb |-;rw[wrapI (n:=e) (by omega) (by omega),wrapI (n:=at0+1) (by omega) (by omega)];refine rf (fun h6=>vb (by omega) (rb ?_)) fun h6=>vb (by omega) (rb ?_)
  .have:=tmodB (a:=e) (b:=n) hb.1 (by omega);exact ⟨⟨this.1,.inr this.2⟩,⟨by dsimp only; omega,h2⟩,⟨h3,h4⟩,h5⟩
  .rw[wrapI (n:=seed * 48271) (by omega) (by omega),wrapI (n:=seed * 48271+e) (by omega) (by omega),wrapI (n:=seed * 48271+e+1) (by omega) (by omega)];have k1:=tmodB (a:=seed * 48271+e+1) (b:=2147483647) (by omega) (by omega);have k2:=tmodB (a:=(seed * 48271+e+1).tmod 2147483647) (b:=n) k1.1 (by omega);exact ⟨⟨k2.1,.inr k2.2⟩,⟨by dsimp only; omega,h2⟩,k1,h5⟩
 .refine vb (by omega) (rb ?_);rw[wrapI (n:=seed * 48271) (by omega) (by omega),wrapI (n:=seed * 48271+11) (by omega) (by omega)];have k1:=tmodB (a:=seed * 48271+11) (b:=2147483647) (by omega) (by omega);have k3:0<=((seed * 48271+11).tmod 2147483647).tdiv 7/\((seed * 48271+11).tmod 2147483647).tdiv 7<=2147483647:=by rw[Int.tdiv_eq_ediv_of_nonneg k1.1];omega
  rw[wrapI (by omega) (by omega)];have k2:=tmodB (b:=n) k3.1 (by omega);exact ⟨⟨k2.1,.inr k2.2⟩,⟨h1,h2⟩,k1,h5⟩
theorem appOk{B M:Type}{R:M->Prop}{l:List B}{a:B}{x:Option M}(h:l.length<4000000)(h1:Ret x R):Ret (bif decide ((l++[a]).length<=lim) then x else none) R:=
 rk (by simp; unfold lim; omega) h1
theorem lenOk{B M:Type}{R:M->Prop}{l:List B}{x:Option M}(h:l.length<4000000)(h1:Ret x R):Ret (bif decide (l.length<=lim) then x else none) R:=
 rk (by unfold lim; omega) h1
include hN in
theorem q222{s:Src}(h:SrcP s)(n:Int):Ret (F_3 N (s,n,u)) (fun r=>(1<=r.1.1.length/\r.1.1.length<=3)/\SrcP r.2):=by
 unfold F_3;dsimp only;refine Ret.bind (q12 h n) ?_;rintro ⟨⟨a,u1⟩,s1⟩ ⟨_,hs1⟩;dsimp only at hs1 |-;refine Ret.bind (q12 hs1 3) ?_;rintro ⟨⟨c,u2⟩,s2⟩ ⟨hc,hs2⟩;dsimp only at hc hs2 |-;rw[wrapI (n:=1+c) (by omega) (by omega)];refine rz (I:=fun(s:Int×Int×Src×List Int×Unit)=>0<=s.2.1/\s.2.1+s.2.2.2.1.length=1+c/\SrcP s.2.2.1) (T:=fun s=>s.2.1.toNat) ?_ N _ ⟨by dsimp only; omega,by simp,hs2⟩ (by dsimp only; omega);rintro ⟨at1,k,s',out,u3⟩ next ⟨h1,h2,h3⟩ hnext
 dsimp only at h1 h2 h3 |-;refine rf (fun hk=>?_) fun hk=>rb ⟨by dsimp only; omega,h3⟩;refine appOk (by omega) ?_;refine Ret.bind (q12 h3 n) ?_;rintro ⟨⟨d,u4⟩,s4⟩ ⟨_,hs4⟩;dsimp only at hs4 |-;rw[wrapI (n:=k - 1) (by omega) (by omega)];exact hnext _ ⟨by dsimp only; omega,by simp; omega,hs4⟩ (by dsimp only; omega)
include hN in
theorem q379{s:Src}(h:SrcP s)(n:Int):Ret (F_4 N (s,n,u)) (fun r=>SmallT r.1.1/\SrcP r.2):=by
 unfold F_4;dsimp only;refine Ret.bind (q222 hN h 60) ?_;rintro ⟨⟨sl,u1⟩,s1⟩ ⟨hsl,hs1⟩;dsimp only at hsl hs1 |-;refine Ret.bind (q222 hN hs1 40) ?_;rintro ⟨⟨ll,u2⟩,s2⟩ ⟨hll,hs2⟩;dsimp only at hll hs2 |-;have hm:sl.length * ll.length<=3 * 3:=Nat.mul_le_mul hsl.2 hll.2;have hm':((sl.length:Int) * (ll.length:Int))=((sl.length * ll.length:Nat):Int):=by simp
 rw[hm',wrapI (n:=((sl.length * ll.length:Nat):Int)) (by omega) (by omega)];generalize hL:sl.length * ll.length=L at hm;refine rq L (fun i (s:Src×List Int×Unit)=>SrcP s.1/\s.2.1.length=i) (by omega) (by omega) ⟨hs2,rfl⟩ ?_ ?_
 .rintro i ⟨s',vs,u3⟩ next hi ⟨h1,h2⟩ hnext
  dsimp only at h1 h2 hnext |-;refine rg (by omega) ?_;refine Ret.bind (q12 h1 10) ?_;rintro ⟨⟨d,u4⟩,s4⟩ ⟨hd,hs4⟩;dsimp only at hs4 |-;refine vb (by omega) ?_;have hmod:((i:Int).tmod (ll.length:Int))=((i % ll.length:Nat):Int):=rfl;rw[hmod];have hz:0<i % ll.length->1<=i:=fun h=>by
   rcases Nat.eq_zero_or_pos i with h0 | h0
   .subst h0; simp at h
   .exact h0
  refine rf (fun hp=>?_) fun hp=>?_
  .have hi1:=hz (by omega);rw[wrapI (n:=(i:Int) - 1) (by omega) (by omega)];refine rr (by omega) (by omega) (rj (by omega) ?_);refine Ret.bind (q12 hs4 20) ?_;rintro ⟨⟨d5,u5⟩,s5⟩ ⟨_,hs5⟩;dsimp only at hs5 |-;refine rf (fun hq=>?_) fun hq=>?_
   .rw[wrapI (n:=(i:Int) - (ll.length:Int)) (by omega) (by omega)];refine rr (by omega) (by omega) (rj (by omega) ?_);refine Ret.bind (q12 hs5 20) ?_;rintro ⟨⟨d6,u6⟩,s6⟩ ⟨_,hs6⟩;dsimp only at hs6 |-;exact appOk (by omega) (hnext _ ⟨hs6,by simp; omega⟩)
   .exact appOk (by omega) (hnext _ ⟨hs5,by simp; omega⟩)
  .refine rf (fun hq=>?_) fun hq=>?_
   .rw[wrapI (n:=(i:Int) - (ll.length:Int)) (by omega) (by omega)];refine rr (by omega) (by omega) (rj (by omega) ?_);refine Ret.bind (q12 hs4 20) ?_;rintro ⟨⟨d6,u6⟩,s6⟩ ⟨_,hs6⟩;dsimp only at hs6 |-;exact appOk (by omega) (hnext _ ⟨hs6,by simp; omega⟩)
   .exact appOk (by omega) (hnext _ ⟨hs4,by simp; omega⟩)
 .rintro ⟨s',vs,u3⟩ next ⟨h1,h2⟩
  dsimp only at h1 h2 |-;refine rd (by omega) (rb ⟨⟨?_,?_,?_⟩,h1⟩) <;> dsimp only <;> omega
include hN in
theorem q109{s:Src}(h:SrcP s)(n:Int):Ret (F_5 N (s,n,u)) (fun r=>q457 r.1.1/\SrcP r.2):=by
 unfold F_5;dsimp only;refine Ret.bind (q379 hN h n) ?_;rintro ⟨⟨t1,u1⟩,s1⟩ ⟨h1,hs1⟩;dsimp only at h1 hs1 |-;refine Ret.bind (q379 hN hs1 n) ?_;rintro ⟨⟨t2,u2⟩,s2⟩ ⟨h2,hs2⟩;refine rb ⟨⟨by simp,fun t ht=>?_⟩,hs2⟩;simp only[List.mem_cons,List.not_mem_nil,or_false] at ht;rcases ht with rfl | rfl
 .exact h1
 .exact h2
include hN in
theorem q81{s:Src}(h:SrcP s)(k a b c:Int):Ret (F_6 N (s,k,a,b,c,u)) (fun r=>SmallA r.1.1/\SrcP r.2):=by
 unfold F_6;dsimp only;refine rf (fun _=>?_) fun _=>?_
 .refine Ret.bind (q12 h 10) ?_;rintro ⟨⟨d,u1⟩,s1⟩ ⟨_,hs1⟩;dsimp only at hs1 |-;refine Ret.bind (q109 hN hs1 _) ?_;rintro ⟨⟨ts,u2⟩,s2⟩ ⟨h2,hs2⟩;exact rb ⟨⟨h2,by simp,by simp⟩,hs2⟩
 .refine Ret.bind (q12 h 20) ?_;rintro ⟨⟨d,u1⟩,s1⟩ ⟨_,hs1⟩;dsimp only at hs1 |-;refine Ret.bind (q109 hN hs1 _) ?_;rintro ⟨⟨ts,u2⟩,s2⟩ ⟨h2,hs2⟩;dsimp only at h2 hs2 |-;refine Ret.bind (q109 hN hs2 _) ?_;rintro ⟨⟨ts3,u3⟩,s3⟩ ⟨h3,hs3⟩;exact rb ⟨⟨h2,h3⟩,hs3⟩
def q367(N:Nat)(t:List Int)(k:Nat):Prop:=∀(a:ByteArray)(b:Int)(c:List DPin)(d:List DArc)(e f:Int)(u v:Unit)(pin:Nat),pin<k->∃ r,F_2 N ((a,b,c,d,t,e,f,u),(pin:Int),v)=some r
include hN in
theorem q127{s:Src}(h:SrcP s){nm:ByteArray}(hnm:nm.size<4000000){t:List Int}{K:Nat}(hK:(t.length=2/\K=1)\/(t.length=4/\K=2)\/(t.length=8/\K=3))(hS:q367 N t K):
 Ret (F_7 N (s,nm,t,u)) (fun r=>SmallC r.1.1/\SrcP r.2):=by
 unfold F_7;dsimp only;refine Ret.bind (q12 h 50) ?_;rintro ⟨⟨d1,u1⟩,s1⟩ ⟨_,hs1⟩;dsimp only at hs1 |-;refine Ret.bind (q12 hs1 80) ?_;rintro ⟨⟨d2,u2⟩,s2⟩ ⟨_,hs2⟩;dsimp only at hs2 |-;refine rz (I:=fun(s:Int×Src×List DPin×Unit)=>((s.1=1/\s.2.2.1.length=0)\/(s.1=2/\s.2.2.1.length=1)\/(s.1=4/\s.2.2.1.length=2)\/(s.1=8/\s.2.2.1.length=3))/\s.1<=t.length/\SrcP s.2.1/\∀ p∈s.2.2.1,p.1.size<4000000) (T:=fun s=>(16 - s.1).toNat) ?_ N _ ⟨.inl ⟨rfl,rfl⟩,by dsimp only; omega,hs2,by simp⟩ (by dsimp only; omega);rintro ⟨n,s3,pins,u3⟩ next ⟨h1,h2,h3,h4⟩ hnext
 dsimp only at h1 h2 h3 h4 |-;refine rf (fun hn=>?_) fun hn=>?_
 .have hl:pins.length<[(⟨#[97]⟩:ByteArray),(⟨#[98]⟩:ByteArray),(⟨#[99]⟩:ByteArray),(⟨#[100]⟩:ByteArray)].length:=by simp; omega
  refine rh hl ?_;have e0:((pins.length:Int)).toNat=pins.length:=by omega
  rw[e0];refine rj hl ?_;have hnm:([(⟨#[97]⟩:ByteArray),(⟨#[98]⟩:ByteArray),(⟨#[99]⟩:ByteArray),(⟨#[100]⟩:ByteArray)][pins.length]).size<4000000:=by have:=aR hl;simp only[List.mem_cons,List.not_mem_nil,or_false] at this;rcases this with h | h | h | h <;> rw[h] <;> decide
  refine Ret.bind (q12 h3 9) ?_;rintro ⟨⟨d5,u5⟩,s5⟩ ⟨_,hs5⟩;dsimp only at hs5 |-;refine appOk (by omega) ?_;rw[wrapI (n:=2 * n) (by omega) (by omega)];refine hnext _ ⟨by simp only[aY,aF,List.length_nil]; omega,by dsimp only; omega,hs5,fun p hp=>?_⟩ (by dsimp only; omega);rcases List.mem_append.1 hp with hp | hp
  .exact h4 p hp
  .simp only[List.mem_cons,List.not_mem_nil,or_false] at hp;subst hp; exact hnm
 .refine appOk (by omega) ?_;have hpk:pins.length=K:=by omega
  refine rq pins.length (fun i (s:Src×List DArc×Unit)=>SrcP s.1/\s.2.1.length<=i/\∀ a∈s.2.1,SmallA a) (by omega) (by omega) ⟨h3,by simp,by simp⟩ ?_ ?_
  .rintro i ⟨s',arcs,u6⟩ next2 hi ⟨g1,g2,g3⟩ hnext2;dsimp only at g1 g2 g3 hnext2 |-;refine rg (by omega) ?_;obtain ⟨r,hr⟩:=hS nm 1 (pins++[((⟨#[121]⟩:ByteArray),(2:Int),(0:Int),false,())]) [] d1 d2 u2 () i (by omega);refine ra hr ?_;refine rl (fun _=>?_) fun _=>hnext2 _ ⟨g1,by dsimp only; omega,g3⟩;refine Ret.bind (q81 hN g1 _ _ _ _) ?_;rintro ⟨⟨ac,u7⟩,s7⟩ ⟨ha,hs7⟩;dsimp only at ha hs7 |-;refine appOk (by omega) (hnext2 _ ⟨hs7,by simp; omega,fun a hp=>?_⟩);rcases List.mem_append.1 hp with hp | hp
   .exact g3 a hp
   .simp only[List.mem_cons,List.not_mem_nil,or_false] at hp;subst hp; exact ha
  .rintro ⟨s',arcs,u6⟩ next2 ⟨g1,g2,g3⟩;dsimp only at g1 g2 g3 |-;refine rd (by omega) (rb ⟨⟨hnm,⟨by simp; omega,fun p hp=>?_⟩,⟨by dsimp only; omega,g3⟩,by dsimp only; omega⟩,g1⟩);rcases List.mem_append.1 hp with hp | hp
   .exact h4 p hp
   .simp only[List.mem_cons,List.not_mem_nil,or_false] at hp;subst hp; show (ByteArray.mk #[121]).size<4000000; decide
include hN in
theorem q129{s:Src}(h:SrcP s){nm:ByteArray}(hnm:nm.size<4000000)(k e:Int):Ret (F_8 N (s,nm,k,e,u)) (fun r=>SmallC r.1.1/\SrcP r.2):=by
 unfold F_8;dsimp only;refine Ret.bind (q12 h 50) ?_;rintro ⟨⟨d1,u1⟩,s1⟩ ⟨_,hs1⟩;dsimp only at hs1 |-;refine Ret.bind (q12 hs1 80) ?_;rintro ⟨⟨d2,u2⟩,s2⟩ ⟨_,hs2⟩;dsimp only at hs2 |-;refine Ret.bind (q12 hs2 9) ?_;rintro ⟨⟨d3,u3⟩,s3⟩ ⟨_,hs3⟩;dsimp only at hs3 |-;refine Ret.bind (q12 hs3 9) ?_;rintro ⟨⟨d4,u4⟩,s4⟩ ⟨_,hs4⟩;dsimp only at hs4 |-;refine Ret.bind (q81 hN hs4 _ _ _ _) ?_;rintro ⟨⟨a5,u5⟩,s5⟩ ⟨ha5,hs5⟩;dsimp only at ha5 hs5 |-;refine Ret.bind (q81 hN hs5 _ _ _ _) ?_;rintro ⟨⟨a6,u6⟩,s6⟩ ⟨ha6,hs6⟩;dsimp only at ha6 hs6 |-;refine Ret.bind (q81 hN hs6 _ _ _ _) ?_;rintro ⟨⟨a7,u7⟩,s7⟩ ⟨ha7,hs7⟩;dsimp only at ha7 hs7 |-;have hp:∀(x y:Int),q207 [((⟨#[100]⟩:ByteArray),(1:Int),x,false,()),((⟨#[99,107]⟩:ByteArray),(1:Int),y,true,()),((⟨#[113]⟩:ByteArray),(2:Int),(0:Int),false,())]:=fun x y=>⟨by simp,fun p hp=>by simp only[List.mem_cons,List.not_mem_nil,or_false] at hp;rcases hp with rfl | rfl | rfl <;> (dsimp only; decide)⟩;refine rf (fun _=>?_) fun _=>?_
 .refine Ret.bind (q81 hN hs7 _ _ _ _) ?_;rintro ⟨⟨a8,u8⟩,s8⟩ ⟨ha8,hs8⟩;dsimp only at ha8 hs8 |-;refine appOk (by simp) (rb ⟨⟨hnm,hp _ _,⟨by simp,fun a ha=>?_⟩,by simp⟩,hs8⟩);simp only[List.mem_append,List.mem_cons,List.not_mem_nil,or_false] at ha;rcases ha with (rfl | rfl | rfl) | rfl <;> assumption
 .refine rb ⟨⟨hnm,hp _ _,⟨by simp,fun a ha=>?_⟩,by simp⟩,hs7⟩;simp only[List.mem_cons,List.not_mem_nil,or_false] at ha;rcases ha with rfl | rfl | rfl <;> assumption
end
set_option maxHeartbeats 2000000
open Go.RowKit
section
variable {N:Nat} (hN:HN N) {u:Unit}
theorem q769(M:Nat):q367 (M+16) [1,0] 1:=fun a b c d e f u v pin hp=>by
 obtain rfl:pin=0:=by omega
 exact ⟨(2,()),by kernel_rfl⟩
theorem q741(M:Nat):q367 (M+16) [0,1] 1:=fun a b c d e f u v pin hp=>by
 obtain rfl:pin=0:=by omega
 exact ⟨(1,()),by kernel_rfl⟩
theorem q712(M:Nat):q367 (M+16) [1,1,1,0] 2:=fun a b c d e f u v pin hp=>by
 rcases (show pin=0\/pin=1 by omega) with rfl | rfl
 .exact ⟨(2,()),by kernel_rfl⟩
 .exact ⟨(2,()),by kernel_rfl⟩
theorem q791(M:Nat):q367 (M+16) [0,1,1,0] 2:=fun a b c d e f u v pin hp=>by
 rcases (show pin=0\/pin=1 by omega) with rfl | rfl
 .exact ⟨(3,()),by kernel_rfl⟩
 .exact ⟨(3,()),by kernel_rfl⟩
theorem q757(M:Nat):q367 (M+16) [0,1,0,1,0,0,1,1] 3:=fun a b c d e f u v pin hp=>by
 rcases (show pin=0\/pin=1\/pin=2 by omega) with rfl | rfl | rfl
 .exact ⟨(1,()),by kernel_rfl⟩
 .exact ⟨(1,()),by kernel_rfl⟩
 .exact ⟨(3,()),by kernel_rfl⟩
include hN in
theorem q596{s:Src}(h:SrcP s):Ret (F_9 N (s,u)) (fun r=>SmallL r.1.1/\SrcP r.2):=by unfold F_9;dsimp only;obtain ⟨M,rfl⟩:∃ M,N=M+16:=⟨N - 16,by omega⟩;refine Ret.bind (q127 hN h (by decide) (.inl ⟨rfl,rfl⟩) (q769 M)) ?_;rintro ⟨⟨c1,u1⟩,s1⟩ ⟨h1,hs1⟩;dsimp only at h1 hs1 |-;refine Ret.bind (q127 hN hs1 (by decide) (.inl ⟨rfl,rfl⟩) (q741 M)) ?_;rintro ⟨⟨c2,u2⟩,s2⟩ ⟨h2,hs2⟩;dsimp only at h2 hs2 |-;refine Ret.bind (q127 hN hs2 (by decide) (.inr (.inl ⟨rfl,rfl⟩)) (q712 M)) ?_;rintro ⟨⟨c3,u3⟩,s3⟩ ⟨h3,hs3⟩;dsimp only at h3 hs3 |-;refine Ret.bind (q127 hN hs3 (by decide) (.inr (.inl ⟨rfl,rfl⟩)) (q791 M)) ?_;rintro ⟨⟨c4,u4⟩,s4⟩ ⟨h4,hs4⟩;dsimp only at h4 hs4 |-;refine Ret.bind (q127 hN hs4 (by decide) (.inr (.inr ⟨rfl,rfl⟩)) (q757 M)) ?_;rintro ⟨⟨c5,u5⟩,s5⟩ ⟨h5,hs5⟩;dsimp only at h5 hs5 |-;refine Ret.bind (q129 hN hs5 (by decide) _ _) ?_;rintro ⟨⟨c6,u6⟩,s6⟩ ⟨h6,hs6⟩;dsimp only at h6 hs6 |-;refine Ret.bind (q129 hN hs6 (by decide) _ _) ?_;rintro ⟨⟨c7,u7⟩,s7⟩ ⟨h7,hs7⟩;dsimp only at h7 hs7 |-;refine Ret.bind (q129 hN hs7 (by decide) _ _) ?_;rintro ⟨⟨c8,u8⟩,s8⟩ ⟨h8,hs8⟩;dsimp only at h8 hs8 |-;refine rb ⟨⟨by simp,fun c hc=>?_⟩,hs8⟩;simp only[List.mem_cons,List.not_mem_nil,or_false] at hc;rcases hc with rfl | rfl | rfl | rfl | rfl | rfl | rfl | rfl <;> assumption
theorem q407(n:Int):(strOf [n]).size=1:=by simp[strOf]
theorem q817(M:Nat){n:Nat}(hn:n<100):Ret (F_10 N (M+3) ((n:Int),u)) (fun r=>r.1.size<=2):=by
 unfold F_10;dsimp only;refine rd (by omega) ?_;refine rf (fun _=>rb (by dsimp only; rw[q407]; omega)) fun h10=>?_;have hd:((n:Int).tdiv 10)=((n / 10:Nat):Int):=rfl;rw[hd,wrapI (n:=((n / 10:Nat):Int)) (by omega) (by omega)];refine Ret.bind (Q:=fun r=>r.1.size<=1) ?_ ?_
 .unfold F_10;dsimp only;refine rd (by omega) (rg (by omega) (rb ?_));dsimp only;rw[q407]; omega
 .rintro ⟨t,u2⟩ ht;dsimp only at ht |-;refine rk (by rw[q407]; unfold limS; omega) (rb ?_);dsimp only;rw[ByteArray.size_append,q407]; omega
def InsQ(x:DInstance):Prop:=x.1.size<100/\1<=x.2.2.1.length/\x.2.2.1.length<=5
def DesQ(d:DDesign):Prop:=(d.1.length<=10/\∀ x∈d.1,InsQ x)/\(3<=d.2.1.length/\d.2.1.length<=20/\∀ s∈d.2.1,s.size<100)/\(1<=d.2.2.1.length/\d.2.2.1.length<=6/\∀ p∈d.2.2.1,p.1.size<100)
theorem q661{d:DDesign}(h:DesQ d):Few d:=⟨by have:=h.1.1; omega,fun x hx=>(h.1.2 x hx).2.2,by have:=h.2.2.2.1; omega⟩
theorem q365{d:DDesign}(h:DesQ d):SmallD d:=
 ⟨⟨by have:=h.1.1; omega,fun x hx=>⟨by have:=(h.1.2 x hx).1; omega,by have:=(h.1.2 x hx).2.2; omega⟩⟩,⟨by have:=h.2.1.2.1; omega,fun s hs=>by have:=h.2.1.2.2 s hs; omega⟩,⟨by have:=h.2.2.2.1; omega,fun p hp=>by have:=h.2.2.2.2 p hp; omega⟩⟩
theorem q402{B:Type}{P:B->Prop}{l:List B}{a:B}(h:∀ x∈l,P x)(ha:P a):∀ x∈l++[a],P x:=fun x hx=>by
 rcases List.mem_append.1 hx with hx | hx
 .exact h x hx
 .simp only[List.mem_cons,List.not_mem_nil,or_false] at hx;subst hx; exact ha
theorem q355{B:Type}{P:B->Prop}{l:List B}{a:B}{i:Nat}(h:∀ x∈l,P x)(ha:P a):∀ x∈l.set i a,P x:=fun x hx=>by
 rcases List.mem_or_eq_of_mem_set hx with hx | rfl
 .exact h x hx
 .exact ha
include hN in
theorem q537{s:Src}(h:SrcP s){most:Int}(hm:2<=most/\most<=10)(wild:Bool):Ret (F_11 N (s,most,wild,u)) (fun r=>DesQ r.1.1/\SrcP r.2):=by
 unfold F_11;dsimp only;refine lenOk (by simp) ?_;rw[wrapI (n:=most - 1) (by omega) (by omega)];refine Ret.bind (q12 h (most - 1)) ?_;rintro ⟨⟨d1,u1⟩,s1⟩ ⟨hd1,hs1⟩;dsimp only at hd1 hs1 |-;rw[wrapI (n:=2+d1) (by omega) (by omega)]
 refine rz (I:=fun(s:Int×Src×List DInstance×List ByteArray×Unit)=>(0<=s.1/\s.1+s.2.2.1.length=2+d1)/\SrcP s.2.1/\s.2.2.2.1.length=3+s.2.2.1.length/\(∀ x∈s.2.2.1,InsQ x)/\∀ n∈s.2.2.2.1,n.size<100) (T:=fun s=>s.1.toNat) ?_ N _
  ⟨⟨by dsimp only; omega,by simp⟩,hs1,by simp,by simp,fun n hn=>by simp only[List.nil_append,List.mem_cons,List.not_mem_nil,or_false] at hn;rcases hn with rfl | rfl | rfl <;> decide⟩ (by dsimp only; omega)
 rintro ⟨n,s2,insts,nets,u2⟩ next ⟨⟨hn0,hn1⟩,hs2,hnl,hins,hnets⟩ hnext
 dsimp only at hn0 hn1 hs2 hnl hins hnets |-;refine rf (fun hn=>?_) fun hn=>?_
 .refine Ret.bind (q12 hs2 12) ?_;rintro ⟨⟨c,u3⟩,s3⟩ ⟨hc,hs3⟩;dsimp only at hc hs3 |-;have hcl:c.toNat<[(0:Int),(1:Int),(2:Int),(2:Int),(3:Int),(4:Int),(5:Int),(5:Int),(5:Int),(6:Int),(7:Int),(1:Int)].length:=by simp; omega
  refine rr hc.1 (by omega) (rj hcl ?_);have hce:∀ v∈[(0:Int),(1:Int),(2:Int),(2:Int),(3:Int),(4:Int),(5:Int),(5:Int),(5:Int),(6:Int),(7:Int),(1:Int)],0<=v/\v<=7:=by decide
  have hce:=hce _ (aR hcl);generalize [(0:Int),(1:Int),(2:Int),(2:Int),(3:Int),(4:Int),(5:Int),(5:Int),(5:Int),(6:Int),(7:Int),(1:Int)][c.toNat]=cell at hce |-;obtain ⟨M,hM⟩:∃ M,N=M+3:=⟨N - 3,by omega⟩;have hnum:∀(k:Nat),k<100->Ret (F_10 N N ((k:Int),())) (fun r=>r.1.size<=2):=fun k hk=>by
   have:=q817 (N:=N) (u:=()) M hk
   rwa [<- hM] at this
  refine Ret.bind (hnum insts.length (by omega)) ?_;rintro ⟨nm,u4⟩ hnm;dsimp only at hnm |-;refine rk (by show 1+nm.size<=limS; unfold limS; omega) ?_;have hpl:cell.toNat<[(2:Int),(2:Int),(3:Int),(3:Int),(4:Int),(3:Int),(3:Int),(3:Int)].length:=by simp; omega
  have hpe:∀ v∈[(2:Int),(2:Int),(3:Int),(3:Int),(4:Int),(3:Int),(3:Int),(3:Int)],2<=v/\v<=4:=by decide
  have hpe:=hpe _ (aR hpl);have hpg:[(2:Int),(2:Int),(3:Int),(3:Int),(4:Int),(3:Int),(3:Int),(3:Int)][cell.toNat]?=some [(2:Int),(2:Int),(3:Int),(3:Int),(4:Int),(3:Int),(3:Int),(3:Int)][cell.toNat]:=aW hpl;generalize [(2:Int),(2:Int),(3:Int),(3:Int),(4:Int),(3:Int),(3:Int),(3:Int)][cell.toNat]=p at hpe hpg
  refine rz (I:=fun(s:Int×Src×(ByteArray×Int×Unit)×List Int×Unit)=>(0<=s.1/\s.1<=p - 1)/\SrcP s.2.1/\s.2.2.1.1.size<100/\(s.2.2.2.1.length:Int)=s.1) (T:=fun s=>(p - 1 - s.1).toNat) ?_ N _
   ⟨⟨by dsimp only; omega,by dsimp only; omega⟩,hs3,by dsimp only; rw[ByteArray.size_append]; show 1+nm.size<100; omega,by simp⟩ (by dsimp only; omega)
  rintro ⟨pin,s4,⟨x1,x2,u5⟩,xn,u6⟩ next2 ⟨⟨hp0,hp1⟩,hs4,hx1,hxn⟩ hnext2;dsimp only at hp0 hp1 hs4 hx1 hxn |-;refine rr hce.1 (by simp; omega) (ra hpg ?_);rw[wrapI (n:=p - 1) (by omega) (by omega)];have leaf:∀{v:Int}{s5:Src}{y:Option ((DDesign×Unit)×Src)},SrcP s5->pin<p - 1->y=next2 (wq (pin+1),s5,(x1,x2,u5),(([]++xn)++[v]),())->Ret (bif decide (([]++xn).length<=lim) then (bif decide ((([]++xn)++[v]).length<=lim) then y else none) else none) (fun r=>DesQ r.1.1/\SrcP r.2):=fun {v s5 y} hs5 hlt hy=>by refine lenOk (by simp; omega) (appOk (by simp; omega) ?_);rw[hy,wrapI (n:=pin+1) (by omega) (by omega)];exact hnext2 _ ⟨⟨by dsimp only; omega,by dsimp only; omega⟩,hs5,hx1,by simp; omega⟩ (by dsimp only; omega)
  refine rf (fun hlt=>?_) fun hge=>?_
  .refine Ret.bind (q12 hs4 _) ?_;rintro ⟨⟨a1,u7⟩,s5⟩ ⟨_,hs5⟩;dsimp only at hs5 |-;refine Ret.bind (q12 hs5 3) ?_;rintro ⟨⟨a2,u8⟩,s6⟩ ⟨_,hs6⟩;dsimp only at hs6 |-;refine rf (fun _=>rf (fun _=>rf (fun _=>leaf hs6 hlt rfl) fun _=>leaf hs6 hlt rfl) fun _=>leaf hs6 hlt rfl) fun _=>rf (fun _=>rf (fun _=>leaf hs6 hlt rfl) fun _=>leaf hs6 hlt rfl) fun _=>leaf hs6 hlt rfl
  .refine lenOk (by simp; omega) (appOk (by simp; omega) ?_);refine Ret.bind (hnum nets.length (by omega)) ?_;rintro ⟨nm2,u7⟩ hnm2;dsimp only at hnm2 |-;refine rk (by show 1+nm2.size<=limS; unfold limS; omega) ?_;refine appOk (by omega) (appOk (by omega) ?_);rw[wrapI (n:=n - 1) (by omega) (by omega)];refine hnext _ ⟨⟨by dsimp only; omega,by simp; omega⟩,hs4,by simp; omega,q402 hins ⟨hx1,by simp,by simp; omega⟩,q402 hnets ?_⟩ (by dsimp only; omega);rw[ByteArray.size_append];show 1+nm2.size<100;omega
 .have hnz:n=0:=by omega
  refine rq insts.length (fun i (s:Src×List DInstance×Unit)=>SrcP s.1/\s.2.1.length=insts.length/\∀ x∈s.2.1,InsQ x) (by omega) (by omega) ⟨hs2,rfl,hins⟩ ?_ ?_
  .rintro i ⟨s3,ins,u3⟩ next2 hi ⟨hs3,hl,hq⟩ hnext2;dsimp only at hs3 hl hq hnext2 |-;have hi':i<ins.length:=by omega
   have e0:((i:Int)).toNat=i:=by omega
   have leaf:∀{s5:Src}{y:Src->List DInstance->Option ((DDesign×Unit)×Src)},SrcP s5->(∀ s6 l,y s6 l=next2 (wq ((i:Int)+1),s6,l,()))->Ret (bif inI (i:Int) ins.length then obind (ins[(i:Int).toNat]?) fun _=>obind (F_1 N (s5,(wq ((nets.length:Int) - (1:Int))),())) fun r51=>obind (ins[(i:Int).toNat]?) fun e52=>
    (bif inI (0:Int) e52.2.2.1.length then obind (ins[(i:Int).toNat]?) fun e53=>obind (e53.2.2.1[(0:Int).toNat]?) fun _=>y r51.2 (ins.set (i:Int).toNat (e53.1,e53.2.1,(e53.2.2.1.set ((0:Int).toNat) (wq ((1:Int)+r51.1.1))),())) else none) else none) (fun r=>DesQ r.1.1/\SrcP r.2):=fun {s5 y} hs5 hy=>by
    have hx:=hq _ (aR hi');rw[e0];refine rh hi' (rj hi' ?_);refine Ret.bind (q12 hs5 _) ?_;rintro ⟨⟨a1,u7⟩,s6⟩ ⟨_,hs6⟩;dsimp only at hs6 |-;refine rj hi' (rr (by omega) (by have:=hx.2.1; omega) (rj hi' (rj (by have:=hx.2.1; show 0<_; omega) ?_)));rw[hy];exact hnext2 _ ⟨hs6,by simpa using hl,q355 hq ⟨hx.1,by simpa using hx.2.1,by simpa using hx.2.2⟩⟩
   refine rg (by omega) ?_;refine Ret.bind (q12 hs3 4) ?_;rintro ⟨⟨a1,u7⟩,s5⟩ ⟨_,hs5⟩;dsimp only at hs5 |-;refine rf (fun _=>?_) fun _=>hnext2 _ ⟨hs5,hl,hq⟩;refine rh hi' ?_;refine ra (show ins[(i:Int).toNat]?=some ins[i] by rw[e0]; exact aW hi') ?_;refine rf (fun _=>leaf (y:=fun s6 l=>next2 (wq ((i:Int)+1),s6,l,())) hs5 fun _ _=>rfl) fun _=>?_;refine rh hi' ?_;refine ra (show ins[(i:Int).toNat]?=some ins[i] by rw[e0]; exact aW hi') ?_;refine rf (fun _=>leaf (y:=fun s6 l=>next2 (wq ((i:Int)+1),s6,l,())) hs5 fun _ _=>rfl) fun _=>?_;exact rx (fun _=>leaf (y:=fun s6 l=>next2 (wq ((i:Int)+1),s6,l,())) hs5 fun _ _=>rfl) fun _=>hnext2 _ ⟨hs5,hl,hq⟩
  .rintro ⟨s3,ins,u3⟩ next2 ⟨hs3,hl,hq⟩;dsimp only at hs3 hl hq |-;refine rd (by omega) ?_;refine lenOk (by simp) (appOk (by simp) ?_);have hpo:∀(x:Int),∀ p∈([]++[((⟨#[99,107]⟩:ByteArray),(1:Int),(0:Int),()),((⟨#[97]⟩:ByteArray),(1:Int),(1:Int),()),((⟨#[98]⟩:ByteArray),(1:Int),(2:Int),())])++[((⟨#[121]⟩:ByteArray),(2:Int),x,())],p.1.size<100:=fun x p hp=>by simp only[List.nil_append,List.mem_append,List.mem_cons,List.not_mem_nil,or_false] at hp;rcases hp with (rfl | rfl | rfl) | rfl <;> (dsimp only; decide)
   refine Ret.bind (q12 hs3 2) ?_;rintro ⟨⟨a1,u7⟩,s5⟩ ⟨_,hs5⟩;dsimp only at hs5 |-;refine rf (fun _=>?_) fun _=>?_
   .refine Ret.bind (q12 hs5 _) ?_;rintro ⟨⟨a2,u8⟩,s6⟩ ⟨_,hs6⟩;dsimp only at hs6 |-;refine appOk (by simp) (rb ⟨⟨⟨by dsimp only; omega,hq⟩,⟨by dsimp only; omega,by dsimp only; omega,hnets⟩,⟨by simp,by simp,q402 (hpo _) (by show (ByteArray.mk #[122]).size<100; decide)⟩⟩,hs6⟩)
   .exact rb ⟨⟨⟨by dsimp only; omega,hq⟩,⟨by dsimp only; omega,by dsimp only; omega,hnets⟩,⟨by simp,by simp,hpo _⟩⟩,hs5⟩
end
section
variable {N:Nat} (hN:HN N) {u:Unit}
theorem q779{d:DDesign}(h:Few d)(k:Int):(sinksL d k).length<=78:=by rw[q486];unfold q258;exact Nat.le_trans List.countP_le_length (q147 h)
theorem q713{M:Type}{R:M->Prop}{n:Nat}{x:Option M}(h:n<4000000)(h1:Ret x R):Ret (bif (decide (0<=(n:Int)) && (decide ((n:Int)<=(lim:Int)) && decide ((n:Int)=(n:Int)))) then x else none) R:=
 rn ⟨by omega,by unfold lim; omega,rfl⟩ h1
def WirQ(w:DWire):Prop:=(1<=w.1.length/\w.1.length<=8)/\(1<=w.2.1.length/\w.2.1.length<=8)/\(1<=w.2.2.1.length/\w.2.2.1.length<=8)/\w.2.2.2.1.length<=200
theorem q364{w:DWire}(h:WirQ w):SmallW w:=⟨by have:=h.1.2; omega,by have:=h.2.1.2; omega,by have:=h.2.2.1.2; omega,by have:=h.2.2.2; omega⟩
theorem q532(l:List Int)(hl:l.length<4000000):F_15 N (l,u)=some (l,()):=by refine Ret.eq ?_;unfold F_15;dsimp only;exact lenOk (by simpa using hl) (rb (by simp))
include hN in
theorem q395{s:Src}(h:SrcP s){k:Nat}(hk:k<=100):Ret (F_16 N (s,(k:Int),u)) (fun r=>WirQ r.1.1/\SrcP r.2):=by
 unfold F_16;dsimp only;refine Ret.bind (q12 h 6) ?_;rintro ⟨⟨d1,u1⟩,s1⟩ ⟨_,hs1⟩;dsimp only at hs1 |-;refine Ret.bind (Q:=fun r=>r.1=([-1],[0],[d1],List.replicate k 0,())) ?_ ?_
 .unfold F_14;dsimp only;refine q713 (by omega) (rb ?_);simp
 rintro ⟨w,u2⟩ rfl;dsimp only;refine Ret.bind (q12 hs1 4) ?_;rintro ⟨⟨d3,u3⟩,s3⟩ ⟨hd3,hs3⟩;dsimp only at hd3 hs3 |-
 refine rz (I:=fun(s:Int×Src×List Int×List Int×List Int×Unit×Unit)=>(0<=s.1/\s.1+s.2.2.1.length=1+d3)/\SrcP s.2.1/\1<=s.2.2.1.length/\s.2.2.2.1.length=s.2.2.1.length/\s.2.2.2.2.1.length=s.2.2.1.length) (T:=fun s=>s.1.toNat) ?_ N _
  ⟨⟨by dsimp only; omega,by simp; omega⟩,hs3,by simp,by simp,by simp⟩ (by dsimp only; omega)
 rintro ⟨n,s4,pa,re,ca,u4,u5⟩ next ⟨⟨hn0,hn1⟩,hs4,h1,h2,h3⟩ hnext
 dsimp only at hn0 hn1 hs4 h1 h2 h3 |-;refine rf (fun hn=>?_) fun hn=>?_
 .refine ra (q532 pa (by omega)) ?_;refine Ret.bind (q12 hs4 _) ?_;rintro ⟨⟨a1,u7⟩,s5⟩ ⟨_,hs5⟩;dsimp only at hs5 |-;refine appOk (by omega) (ra (q532 re (by omega)) ?_);refine Ret.bind (q12 hs5 _) ?_;rintro ⟨⟨a2,u8⟩,s6⟩ ⟨_,hs6⟩;dsimp only at hs6 |-;refine appOk (by omega) (ra (q532 ca (by omega)) ?_);refine Ret.bind (q12 hs6 _) ?_;rintro ⟨⟨a3,u9⟩,s7⟩ ⟨_,hs7⟩;dsimp only at hs7 |-;refine appOk (by omega) ?_;rw[wrapI (n:=n - 1) (by omega) (by omega)];exact hnext _ ⟨⟨by dsimp only; omega,by simp; omega⟩,hs7,by simp,by simpa using h2,by simpa using h3⟩ (by dsimp only; omega)
 .refine rq k (fun i (s:Src×List Int×Unit)=>SrcP s.1/\s.2.1.length=k) (by omega) (by omega) ⟨hs4,by simp⟩ ?_ ?_
  .rintro i ⟨s5,sk,u6⟩ next2 hi ⟨hs5,hl⟩ hnext2;dsimp only at hs5 hl hnext2 |-;refine rg (by omega) ?_;refine Ret.bind (q12 hs5 _) ?_;rintro ⟨⟨a1,u7⟩,s6⟩ ⟨_,hs6⟩;dsimp only at hs6 |-;refine rh (by omega) (rj (by omega) ?_);exact hnext2 _ ⟨hs6,by simpa using hl⟩
  .rintro ⟨s5,sk,u6⟩ next2 ⟨hs5,hl⟩;dsimp only at hs5 hl |-;exact rd (by omega) (rb ⟨⟨⟨h1,by dsimp only; omega⟩,⟨by dsimp only; omega,by dsimp only; omega⟩,⟨by dsimp only; omega,by dsimp only; omega⟩,by dsimp only; omega⟩,hs5⟩)
def BlkQ(b:DBlock):Prop:=SmallL b.1/\DesQ b.2.1/\(3<=b.2.2.1.length/\b.2.2.1.length<=20/\∀ w∈b.2.2.1,WirQ w)
theorem q479{b:DBlock}(h:BlkQ b):SmallB b:=⟨h.1,q365 h.2.1,by have:=h.2.2.2.1; omega,fun w hw=>q364 (h.2.2.2.2 w hw)⟩
include hN in
theorem q256{s:Src}(h:SrcP s){most:Int}(hm:2<=most/\most<=10)(wild:Bool):Ret (F_17 N (s,most,wild,u)) (fun r=>BlkQ r.1.1/\SrcP r.2):=by
 unfold F_17;dsimp only;refine Ret.bind (q596 hN h) ?_;rintro ⟨⟨l,u1⟩,s1⟩ ⟨hl,hs1⟩;dsimp only at hl hs1 |-;refine Ret.bind (q537 hN hs1 hm wild) ?_;rintro ⟨⟨d,u2⟩,s2⟩ ⟨hd,hs2⟩;dsimp only at hd hs2 |-;have hnl:=hd.2.1.2.1;have hn3:=hd.2.1.1;refine rq d.2.1.length (fun i (s:Src×List DWire×Unit)=>SrcP s.1/\s.2.1.length=i/\∀ w∈s.2.1,WirQ w) (by omega) (by omega) ⟨hs2,rfl,by simp⟩ ?_ ?_
 .rintro i ⟨s3,ws,u3⟩ next hi ⟨hs3,hwl,hws⟩ hnext
  dsimp only at hs3 hwl hws hnext |-;refine rg (by omega) ?_;refine ra (q324 hN (q661 hd) (i:Int)) ?_;dsimp only;refine Ret.bind (q395 hN hs3 (by have:=q779 (q661 hd) (i:Int); omega)) ?_;rintro ⟨⟨w,u4⟩,s4⟩ ⟨hw,hs4⟩;dsimp only at hw hs4 |-;exact appOk (by omega) (hnext _ ⟨hs4,by simp; omega,q402 hws hw⟩)
 .rintro ⟨s3,ws,u3⟩ next ⟨hs3,hwl,hws⟩
  dsimp only at hs3 hwl hws |-;exact rd (by omega) (rb ⟨⟨hl,hd,by dsimp only; omega,by dsimp only; omega,hws⟩,hs3⟩)
include hN in
theorem q438{s:Src}(h:SrcP s):Ret (F_18 N (s,u)) (fun r=>SmallB r.1.1/\SrcP r.2):=by
 unfold F_18;dsimp only;refine Ret.bind (q12 h 3) ?_;rintro ⟨⟨d1,u1⟩,s1⟩ ⟨_,hs1⟩;dsimp only at hs1 |-;refine Ret.bind (q256 hN hs1 (by omega) _) ?_;rintro ⟨⟨⟨l,d,ws,u9⟩,u2⟩,s2⟩ ⟨⟨hl,hd,hw3,hw20,hws⟩,hs2⟩;dsimp only at hl hd hw3 hw20 hws hs2 |-;refine Ret.bind (q12 hs2 _) ?_;rintro ⟨⟨k,u3⟩,s3⟩ ⟨hk,hs3⟩;dsimp only at hk hs3 |-;refine Ret.bind (q12 hs3 20) ?_;rintro ⟨⟨d4,u4⟩,s4⟩ ⟨_,hs4⟩;dsimp only at hs4 |-;have hkl:k.toNat<ws.length:=by omega
 have hkg:ws[k.toNat]?=some ws[k.toNat]:=aW hkl;have hwk:=hws _ (aR hkl);have mk:∀ ws2:List DWire,ws2.length<=20->(∀ w∈ws2,SmallW w)->SmallB (l,d,ws2,u9):=fun ws2 h1 h2=>⟨hl,q365 hd,by dsimp only; omega,h2⟩;have hsm:∀ w∈ws,SmallW w:=fun w hw=>q364 (hws w hw);generalize ws[k.toNat]=wk at hkg hwk;have hwks:=q364 hwk;refine rf (fun _=>?_) fun _=>rf (fun _=>?_) fun _=>rf (fun _=>?_) fun _=>rf (fun _=>?_) fun _=>rf (fun _=>?_) fun _=>rf (fun _=>?_) fun _=>?_
 .refine rt ⟨by omega,by omega,by omega⟩ (rb ⟨mk _ (by simp; omega) fun w hw=>hsm w (List.mem_of_mem_take (List.mem_of_mem_drop hw)),hs4⟩)
 .refine rr hk.1 (by omega) (ra hkg (ra hkg ?_));refine ra (q532 wk.2.2.2.1 (by have:=hwk.2.2.2; omega)) ?_;dsimp only;refine appOk (by have:=hwk.2.2.2; omega) ?_;refine rr hk.1 (by omega) (ra hkg (rb ⟨mk _ (by simpa using hw20) (q355 hsm ⟨hwks.1,hwks.2.1,hwks.2.2.1,by have:=hwk.2.2.2; simp; omega⟩),hs4⟩))
 .refine rr hk.1 (by omega) (ra hkg (ra hkg ?_));refine rr (by omega) (by have:=hwk.2.1.1; omega) (ra hkg (rj (show (0:Int).toNat<wk.2.1.length by have:=hwk.2.1.1; show 0<_; omega) ?_));exact rb ⟨mk _ (by simpa using hw20) (q355 hsm ⟨hwks.1,by simpa using hwks.2.1,hwks.2.2.1,hwks.2.2.2⟩),hs4⟩
 .refine rr hk.1 (by omega) (ra hkg ?_);refine Ret.bind (q12 hs4 3) ?_;rintro ⟨⟨d5,u5⟩,s5⟩ ⟨hd5,hs5⟩;dsimp only at hd5 hs5 |-;have h3:d5.toNat<[((-1):Int),(500:Int),(501:Int)].length:=by simp; omega
  refine rr hd5.1 (by simp; omega) (rj h3 (ra hkg ?_));refine rr (by omega) (by have:=hwk.2.2.1.1; omega) (ra hkg (rj (show (0:Int).toNat<wk.2.2.1.length by have:=hwk.2.2.1.1; show 0<_; omega) ?_));exact rb ⟨mk _ (by simpa using hw20) (q355 hsm ⟨hwks.1,hwks.2.1,by simpa using hwks.2.2.1,hwks.2.2.2⟩),hs5⟩
 .refine rr hk.1 (by omega) (ra hkg ?_);refine rr hk.1 (by omega) (ra hkg (ra hkg ?_));refine Ret.bind (q12 hs4 5) ?_;rintro ⟨⟨d5,u5⟩,s5⟩ ⟨hd5,hs5⟩;dsimp only at hd5 hs5 |-;refine ra hkg ?_;have h1:=hwk.1;rw[wrapI (n:=(wk.1.length:Int) - 1) (by omega) (by omega)];refine rr (by omega) (by omega) (ra hkg (rj (show ((wk.1.length:Int) - 1).toNat<wk.1.length by omega) ?_));exact rb ⟨mk _ (by simpa using hw20) (q355 hsm ⟨by simpa using hwks.1,hwks.2.1,hwks.2.2.1,hwks.2.2.2⟩),hs5⟩
 .have hp:=hd.2.2;refine rr (by omega) (by have:=hp.1; omega) (rj (show (0:Int).toNat<d.2.2.1.length by have:=hp.1; show 0<_; omega) ?_);have hds:=q365 hd;refine rb ⟨⟨hl,⟨hds.1,hds.2.1,by simpa using hds.2.2.1,q355 hds.2.2.2 ?_⟩,by dsimp only; omega,hsm⟩,hs4⟩;have h5:=hds.2.2.2 _ (aR (show (0:Int).toNat<d.2.2.1.length by have:=hp.1; show 0<_; omega));exact h5
 .exact rb ⟨mk _ hw20 hsm,hs4⟩
end
section
variable {N:Nat} (hN:HN N) {u:Unit}
theorem seedOk{seed e:Int}(h:0<=seed/\seed<2147483647)(he:BtwP 0 255 e):0<=(wq ((wq (seed * (31:Int)))+(wq e))).tmod (2147483647:Int)/\(wq ((wq (seed * (31:Int)))+(wq e))).tmod (2147483647:Int)<2147483647:=by unfold BtwP at he;rw[wrapI (n:=seed * 31) (by omega) (by omega),wrapI (n:=e) (by omega) (by omega),wrapI (n:=seed * 31+e) (by omega) (by omega)];exact tmodB (by omega) (by omega)
include hN in
theorem Ret.srcA{M:Type}{R:M->Prop}{code:List Int}(hl:code.length<4000000)(hc:∀ b∈code,BtwP 0 255 b){K:Int×Src×Unit->Option M}(hK:∀ s,SrcP s.2.1->Ret (K s) R):
 Ret (fixN N (fun(next:(Int×Src×Unit)->Option M)(s:Int×Src×Unit)=>(bif (decide (s.1<(code.length:Int))) then (bif (decide (s.1<(64:Int))) then obind (atI code s.1) fun e=>next ((wq (s.1+(1:Int))),(s.2.1.1,s.2.1.2.1,((wq ((wq (s.2.1.2.2.1 * (31:Int)))+(wq e))).tmod (2147483647:Int)),()),()) else K s) else K s)) ((0:Int),(code,(0:Int),(12345:Int),()),())) R:=by
 refine rz (I:=fun(s:Int×Src×Unit)=>(0<=s.1/\s.1<=64)/\SrcP s.2.1) (T:=fun s=>(64 - s.1).toNat) ?_ N _
  ⟨⟨by dsimp only; omega,by dsimp only; omega⟩,⟨⟨by dsimp only; omega,hl⟩,⟨by dsimp only; omega,by dsimp only; omega⟩,hc⟩⟩ (by dsimp only; omega)
 rintro ⟨i,⟨cd,at0,seed,u1⟩,u2⟩ next ⟨⟨hi0,hi64⟩,hs⟩ hnext
 dsimp only at hi0 hi64 |-;refine rf (fun h1=>rf (fun h2=>?_) fun h2=>hK _ hs) fun h1=>hK _ hs;have hlt:i.toNat<code.length:=by omega
 refine vd hi0 hlt ?_;rw[wrapI (n:=i+1) (by omega) (by omega)];obtain ⟨g1,g2,g4⟩:=hs;exact hnext _ ⟨⟨by dsimp only; omega,by dsimp only; omega⟩,g1,seedOk g2 (hc _ (aR hlt)),g4⟩ (by dsimp only; omega)
include hN in
theorem Ret.srcB{M:Type}{R:M->Prop}{code:List Int}(hl:code.length<4000000)(hc:∀ b∈code,BtwP 0 255 b){K:Int×(Int×Int×Unit)×Unit->Option M}(hK:∀ s,SrcP (code,s.2.1)->Ret (K s) R):
 Ret (fixN N (fun(next:(Int×(Int×Int×Unit)×Unit)->Option M)(s:Int×(Int×Int×Unit)×Unit)=>(bif (decide (s.1<(code.length:Int))) then (bif (decide (s.1<(64:Int))) then (bif inI s.1 code.length then obind (code[s.1.toNat]?) fun e=>next ((wq (s.1+(1:Int))),(s.2.1.1,((wq ((wq (s.2.1.2.1 * (31:Int)))+(wq e))).tmod (2147483647:Int)),()),()) else none) else K s) else K s)) ((0:Int),((0:Int),(12345:Int),()),())) R:=by
 refine rz (I:=fun(s:Int×(Int×Int×Unit)×Unit)=>(0<=s.1/\s.1<=64)/\SrcP (code,s.2.1)) (T:=fun s=>(64 - s.1).toNat) ?_ N _
  ⟨⟨by dsimp only; omega,by dsimp only; omega⟩,⟨⟨by dsimp only; omega,hl⟩,⟨by dsimp only; omega,by dsimp only; omega⟩,hc⟩⟩ (by dsimp only; omega)
 rintro ⟨i,⟨at0,seed,u1⟩,u2⟩ next ⟨⟨hi0,hi64⟩,hs⟩ hnext
 dsimp only at hi0 hi64 |-;refine rf (fun h1=>rf (fun h2=>?_) fun h2=>hK _ hs) fun h1=>hK _ hs;have hlt:i.toNat<code.length:=by omega
 refine rr hi0 (by omega) (rj hlt ?_);rw[wrapI (n:=i+1) (by omega) (by omega)];obtain ⟨g1,g2,g4⟩:=hs;exact hnext _ ⟨⟨by dsimp only; omega,by dsimp only; omega⟩,g1,seedOk g2 (hc _ (aR hlt)),g4⟩ (by dsimp only; omega)
include hN in
theorem q384{s:Src}(h:SrcP s):Ret (F_19 N (s,u)) (fun r=>SmallB r.1.1/\SrcP r.2):=by
 unfold F_19;dsimp only;refine Ret.bind (q12 h 14) ?_;rintro ⟨⟨d1,u1⟩,s1⟩ ⟨_,hs1⟩;dsimp only at hs1 |-;refine rf (fun _=>?_) fun _=>rf (fun _=>?_) fun _=>?_
 .refine Ret.bind (q438 hN hs1) ?_;rintro ⟨⟨b,u2⟩,s2⟩ hb;exact rb hb
 .refine Ret.bind (q256 hN hs1 (by omega) _) ?_;rintro ⟨⟨b,u2⟩,s2⟩ ⟨hb,hs2⟩;exact rb ⟨q479 hb,hs2⟩
 .refine Ret.bind (q12 hs1 8) ?_;rintro ⟨⟨d4,u4⟩,s4⟩ ⟨hd4,hs4⟩;dsimp only at hd4 hs4 |-;rw[wrapI (n:=2+d4) (by omega) (by omega)];refine Ret.bind (q256 hN hs4 (by omega) _) ?_;rintro ⟨⟨b,u5⟩,s5⟩ ⟨hb,hs5⟩;exact rb ⟨q479 hb,hs5⟩
theorem q108{s:Src}(h:SrcP s)(b:DBlock):Ret (F_124 N (s,b,u)) (fun r=>SrcP r.2):=by
 unfold F_124;dsimp only;refine Ret.bind (q12 h 16) ?_;rintro ⟨⟨d1,u1⟩,s1⟩ ⟨_,hs1⟩;dsimp only at hs1 |-;refine rf (fun _=>?_) fun _=>?_
 .refine Ret.bind (q12 hs1 2) ?_;rintro ⟨⟨d2,u2⟩,s2⟩ ⟨hd2,hs2⟩;dsimp only at hd2 hs2 |-;refine rr hd2.1 (by simp; omega) (rj (by simp; omega) (rb hs2))
 .refine Ret.bind (q12 hs1 _) ?_;rintro ⟨⟨d2,u2⟩,s2⟩ ⟨_,hs2⟩;exact rb hs2
include hN in
theorem q452{code:List Int}(hl:code.length<=5000)(hc:∀ b∈code,BtwP 0 255 b):Ret (F_125 N (code,u)) (fun r=>SmallB r.1):=by unfold F_125;dsimp only;refine Ret.srcA hN (by omega) hc fun s hs=>?_;refine Ret.bind (q384 hN (u:=s.2.2) hs) ?_;rintro ⟨⟨b,u3⟩,s3⟩ ⟨hb,hs3⟩;dsimp only at hb hs3 |-;refine rf (fun _=>rb hb) fun _=>?_;refine Ret.bind (q108 hs3 b) ?_;rintro ⟨r,s4⟩ _;exact rb hb
theorem q351{b:DBlock}(hb:SmallB b):(srcAns b).1.length<4000000:=by
 rcases q126 b with ⟨hB,_,e⟩ | ⟨_,_,e⟩ | ⟨_,e⟩ <;> rw[e]
 .have h1:=q155 b b.2.1.2.1.length;have h2:=(q17 hB).2;show (srcOf b).length<_;unfold srcOf;omega
 .simp
 .simp
theorem q558{k:Int}(hk:BtwP 0 255 k){code:List Int}(hc:∀ b∈code,BtwP 0 255 b):∀ b∈[k]++code,BtwP 0 255 b:=fun b hb=>by
 rcases List.mem_append.1 hb with h | h
 .simp only[List.mem_cons,List.not_mem_nil,or_false] at h;subst h; exact hk
 .exact hc b h
include hN in
theorem q237{code:List Int}(hl:code.length<=4096)(hc:∀ b∈code,BtwP 0 255 b):Ret (F_127 N (code,u)) (fun r=>SmallB r.1):=by
 unfold F_127;dsimp only;refine Ret.bind (q452 (u:=u) hN (by omega) hc) ?_;rintro ⟨b,net,u1⟩ hb;dsimp only at hb |-;refine lenOk (by simp; omega) (Ret.srcB hN (by simp; omega) (q558 ⟨by decide,by decide⟩ hc) fun s hs=>?_);refine rf (fun _=>rb hb) fun _=>?_;refine ra (q66 hN hb _) ?_;have hsl:=q351 hb;generalize srcAns b=sa at hsl;obtain ⟨sl,sc,u2⟩:=sa;dsimp only at hsl |-;refine rf (fun _=>rf (fun h0=>?_) fun _=>?_) fun _=>?_
 .refine Ret.bind (q12 hs 3) ?_;rintro ⟨⟨d1,u3⟩,s3⟩ ⟨_,hs3⟩;dsimp only at hs3 |-;refine rf (fun _=>?_) fun _=>?_
  .refine Ret.bind (q12 hs3 _) ?_;rintro ⟨⟨d2,u4⟩,s4⟩ ⟨hd2,hs4⟩;dsimp only at hd2 hs4 |-;exact rr hd2.1 (by omega) (rj (by omega) (rb hb))
  .refine Ret.bind (q108 hs3 b) ?_;rintro ⟨r,s4⟩ _;exact rb hb
 all_goals
  refine Ret.bind (q108 hs b) ?_;rintro ⟨r,s4⟩ _;exact rb hb
include hN in
theorem q338{code:List Int}(hl:code.length<=4096)(hc:∀ b∈code,BtwP 0 255 b):Ret (F_45 N (code,u)) (fun r=>SmallB r.1/\r.2.1.length<4000000):=by
 unfold F_45;dsimp only;refine Ret.srcA hN (by omega) hc fun s hs=>?_;refine Ret.bind (q384 hN (u:=s.2.2) hs) ?_;rintro ⟨⟨b,u3⟩,s3⟩ ⟨hb,hs3⟩;dsimp only at hb hs3 |-;refine ra (q66 hN hb _) ?_;have hsl:(srcAns b).1.length<100:=by
  rcases q126 b with ⟨hB,_,e⟩ | ⟨_,_,e⟩ | ⟨_,e⟩ <;> rw[e]
  .have h1:=q155 b b.2.1.2.1.length;have h2:=(q17 hB).2;show (srcOf b).length<_;unfold srcOf;omega
  .simp
  .simp
 generalize srcAns b=sa at hsl;obtain ⟨sl,sc,u2⟩:=sa;dsimp only at hsl |-;refine rq sl.length (fun i (s:Src×List Int×Unit)=>SrcP s.1/\s.2.1.length<=i) (by omega) (by omega) ⟨hs3,by simp⟩ ?_ ?_
 .rintro i ⟨s4,vs,u4⟩ next hi ⟨hs4,hv⟩ hnext
  dsimp only at hs4 hv hnext |-;refine rg (by omega) (rf (fun _=>?_) fun _=>?_)
  .refine Ret.bind (q12 hs4 2) ?_;rintro ⟨⟨d5,u5⟩,s5⟩ ⟨_,hs5⟩;dsimp only at hs5 |-;exact appOk (by omega) (hnext _ ⟨hs5,by simp; omega⟩)
  .refine Ret.bind (q12 hs4 12) ?_;rintro ⟨⟨d5,u5⟩,s5⟩ ⟨_,hs5⟩;dsimp only at hs5 |-;refine rf (fun _=>?_) fun _=>rf (fun h0=>?_) fun _=>rb ⟨hb,by dsimp only; omega⟩
   .refine Ret.bind (q12 hs5 3) ?_;rintro ⟨⟨d6,u6⟩,s6⟩ ⟨_,hs6⟩;exact appOk (by omega) (rb ⟨hb,by simp; omega⟩)
   .refine Ret.bind (q12 hs5 12) ?_;rintro ⟨⟨d6,u6⟩,s6⟩ ⟨_,hs6⟩;dsimp only at hs6 |-;refine rf (fun _=>rr (by omega) (by omega) (rj (show (0:Int).toNat<vs.length by show 0<_; omega) (rb ⟨hb,by simp; omega⟩))) fun _=>rb ⟨hb,by dsimp only; omega⟩
 .rintro ⟨s4,vs,u4⟩ next ⟨hs4,hv⟩
  dsimp only at hs4 hv |-;refine rd (by omega) ?_;refine Ret.bind (q12 hs4 12) ?_;rintro ⟨⟨d5,u5⟩,s5⟩ ⟨_,hs5⟩;dsimp only at hs5 |-;refine rf (fun _=>?_) fun _=>rf (fun h0=>?_) fun _=>rb ⟨hb,by dsimp only; omega⟩
  .refine Ret.bind (q12 hs5 3) ?_;rintro ⟨⟨d6,u6⟩,s6⟩ ⟨_,hs6⟩;exact appOk (by omega) (rb ⟨hb,by simp; omega⟩)
  .refine Ret.bind (q12 hs5 12) ?_;rintro ⟨⟨d6,u6⟩,s6⟩ ⟨_,hs6⟩;dsimp only at hs6 |-;refine rf (fun _=>rr (by omega) (by omega) (rj (show (0:Int).toNat<vs.length by show 0<_; omega) (rb ⟨hb,by simp; omega⟩))) fun _=>rb ⟨hb,by dsimp only; omega⟩
end
section
variable {N:Nat} (hM:1000000000000<=N) {u:Unit}
include hM
end
theorem q615{n:Int}(h:(Lit.int .u8 n).wf=true):BtwP 0 255 n:=by have h1:IntKind.u8.min=0:=rfl;have h2:IntKind.u8.max=255:=rfl;simp[Lit.wf,h1,h2] at h;unfold BtwP;omega
theorem q742{N:Nat}(hN:HN N){xs:List Int}(hl:xs.length<4000000)(x:Int){u:Unit}:F_165 N (xs,x,u)=some (dec (x∈xs),()):=by
 refine Ret.tells ?_;unfold F_165;dsimp only;refine rq xs.length (fun i _=>∀ j (h:j<xs.length),j<i->xs[j]≠x) (by omega) (by omega) (fun j h hj=>absurd hj (by omega)) ?_ ?_
 .rintro i u2 next hi hI hnext
  dsimp only;refine rg (by omega) (ri hi (rf (fun he=>rb (q36.2 ?_)) fun he=>hnext _ fun j h hj=>?_))
  .rw[<- he]; exact aR hi
  .rcases Nat.lt_or_ge j i with h1 | h1
   .exact hI j h h1
   .obtain rfl:j=i:=by omega
    exact he
 .rintro u2 next hI
  dsimp only;refine rd (by omega) (rb (q9.2 fun hm=>?_));obtain ⟨j,hj,e⟩:=List.getElem_of_mem hm;exact hI j hj hj e
theorem q812{N:Nat}{code:List Int}(hc:∀ b∈code,BtwP 0 255 b){a:Int}(h0:0<=a)(st:Int){n:Nat}(hn:0<n)(hn':n<4000000){u u':Unit}:Ret (F_115 N ((code,a,st,u),(n:Int),u')) (fun r=>0<=r.1.1/\r.1.1<(n:Int)):=by
 unfold F_115;dsimp only;refine rk (by omega) ?_;have hm:∀ x:Int,0<=bits .and .u64 ((IntKind.u64.wrap x).fdiv (2 ^ (min (33:Int).toNat (IntKind.u64).bits))) (16777215:Int)/\bits .and .u64 ((IntKind.u64.wrap x).fdiv (2 ^ (min (33:Int).toNat (IntKind.u64).bits))) (16777215:Int)<16777216:=by
  intro x;have hb:(IntKind.u64).bits=64:=rfl;have hw:0<=IntKind.u64.wrap x/\IntKind.u64.wrap x<18446744073709551616:=by simp only[IntKind.wrap,IntKind.bits,IntKind.signed];simp;omega
  have e:(2:Int) ^ (min (33:Int).toNat (IntKind.u64).bits)=8589934592:=by decide
  rw[e,Int.fdiv_eq_ediv_of_nonneg _ (by decide)];have hd:0<=IntKind.u64.wrap x / 8589934592/\IntKind.u64.wrap x / 8589934592<2 ^ 64:=by
   have:(2:Int) ^ 64=18446744073709551616:=by decide
   omega
  have hb:=bits_mask .u64 64 (by decide) (fun n h0 h1=>by
   have:(2:Int) ^ 64=18446744073709551616:=by decide
   simp only[IntKind.wrap,IntKind.bits,IntKind.signed];simp;omega) 24 (by decide) _ hd.1 hd.2
  have e24:(2:Int) ^ 24=16777216:=by decide
  rw[e24] at hb;rw[show (16777215:Int)=16777216 - 1 by decide,hb];omega
 refine rf (fun h=>vd h0 (by omega) (rd (by omega) (rb ?_))) fun h=>rd (by omega) (rb ?_)
 .have h1:=hm (IntKind.u64.wrap (st * (6364136223846793005:Int))+(1442695040888963407:Int));have h2:=hc _ (aR (show a.toNat<code.length by omega));unfold BtwP at h2;dsimp only;rw[wrapI (n:=bits .and .u64 _ _) (by omega) (by omega),wrapI (n:=code[a.toNat]) (by omega) (by omega),wrapI (by omega) (by omega)];exact tmodB (by omega) (by omega)
 .have h1:=hm (IntKind.u64.wrap (st * (6364136223846793005:Int))+(1442695040888963407:Int));dsimp only;rw[wrapI (n:=bits .and .u64 _ _) (by omega) (by omega)];exact tmodB (by omega) (by omega)
theorem q666{b:DBlock}{src src':Nat->Int}:∀(m k:Nat),(∀ s,SupP b k s->src s=src' s)->valN b src m k=valN b src' m k
 | 0,_,_=>rfl
 | m+1,k,h=>by
  unfold valN;by_cases hg:gateOf b k<0
  .rw[if_pos hg,if_pos hg];exact h k ⟨hg,.refl k⟩
  .rw[if_neg hg,if_neg hg,q269 (fun i hi=>?_) _ (Nat.le_refl _)];exact q666 m _ fun s hs=>h s ⟨hs.1,.step (by omega) hi hs.2⟩
theorem q613{b:DBlock}{src src':Nat->Int}{k:Nat}(h:∀ s,SupP b k s->src s=src' s):val b src k=val b src' k:=q666 31 k h
theorem q656{V:Int->Int}{l:List Int}(hV:∀ i∈l,0<=V i/\V i<=1):∀ p,p<=l.length->∀ q (hq:q<l.length),q<p->(((idxP V l p).toNat / 2 ^ q % 2:Nat):Int)=V l[q]
 | 0,_,q,_,h=>absurd h (Nat.not_lt_zero _)
 | p+1,hp,q,hq,h=>by
  have hb:=q101 hV p (by omega);have hv:=hV _ (aR (show p<l.length by omega));have e:l[p]?.getD 0=l[p]'(by omega):=by rw[aW (by omega)]; rfl
  simp only[idxP,e];have ih:=q656 hV p (by omega) q hq;generalize idxP V l p=a at hb ih;obtain ⟨a',rfl⟩:=Int.eq_ofNat_of_zero_le hb.1;obtain ⟨v,hv'⟩:=Int.eq_ofNat_of_zero_le hv.1;have hlt:a'<2 ^ p:=by exact_mod_cast hb.2
  have en:((a':Int)+V (l[p]'(by omega)) * 2 ^ p).toNat=a'+v * 2 ^ p:=by rw[hv',show ((a':Int)+(v:Int) * 2 ^ p)=((a'+v * 2 ^ p:Nat):Int) by simp,aE]
  rw[en];rcases Nat.lt_or_ge q p with h1 | h1
  .have hi:=ih h1;rw[aE] at hi;rw[<- hi];have e2:v * 2 ^ p=2 ^ q * (2 * (2 ^ (p - q - 1) * v)):=by
    have:2 ^ p=2 ^ q * (2 * 2 ^ (p - q - 1)):=by rw[<- Nat.pow_succ',<- Nat.pow_add]; congr 1; omega
    rw[this,Nat.mul_comm v,Nat.mul_assoc,Nat.mul_assoc]
   rw[e2,Nat.add_mul_div_left _ _ (Nat.pow_pos (by omega))];congr 1;omega
  .obtain rfl:q=p:=by omega
   rw[Nat.add_mul_div_right _ _ (Nat.pow_pos (by omega)),Nat.div_eq_of_lt hlt,hv'];have:v<=1:=by omega
   congr 1;omega
theorem q518(b:DBlock)(vs:List Int):(BlockP b/\Ranked b/\ValsOk b vs/\q261 b vs=((List.range b.2.1.2.1.length).map (val b (srcVal (srcOf b) vs)),0,()))\/((q261 b vs).1=[]/\(q261 b vs).2.1≠0):=by
 unfold q261;by_cases h1:BlockP b
 .by_cases h2:Ranked b
  .by_cases h3:ValsOk b vs
   .exact .inl ⟨h1,h2,h3,by rw[if_pos h1,if_pos h2,if_pos h3]⟩
   .exact .inr (by rw[if_pos h1,if_pos h2,if_neg h3]; simp)
  .exact .inr (by rw[if_pos h1,if_neg h2]; simp)
 .exact .inr (by rw[if_neg h1]; simp)
theorem q766{b:DBlock}{vs:List Int}(hV:ValsOk b vs){k:Nat}(hn:(supL b k).length<=62):
 let V:=fun i:Int=>srcVal (srcOf b) vs i.toNat
 (funL b (supL b k) k)[(idxP V (supL b k) (supL b k).length).toNat]?=some (val b (srcVal (srcOf b) vs) k):=by
 intro V;have hbit:∀ i∈supL b k,0<=V i/\V i<=1:=fun i _=>q102 (fun v hv=>by have:=hV.2 v hv; unfold BtwP at this; omega) _;have hb:=q101 hbit _ (Nat.le_refl _);have hlt:(idxP V (supL b k) (supL b k).length).toNat<2 ^ (supL b k).length:=by
  have:((2 ^ (supL b k).length:Nat):Int)=2 ^ (supL b k).length:=by simp
  omega
 unfold funL;rw[List.getElem?_map,List.getElem?_range hlt];simp only[Option.map_some,Option.some.injEq];refine q613 fun s hs=>?_;by_cases hs':s<b.2.1.2.1.length
 .have hmem:(s:Int)∈supL b k:=q61.2 ⟨s,hs',hs,rfl⟩;obtain ⟨p,hp,e⟩:=List.getElem_of_mem hmem;rw[q199 (q340 b k).nodup hp (by rw[q191]; exact hp) e,q363,q656 hbit _ (Nat.le_refl _) p hp hp];show srcVal _ _ ((supL b k)[p]).toNat=_;rw[e,aE]
 .rw[q202,q202]
  .intro h;obtain ⟨s',h1,h2,h3⟩:=q151.1 h;omega
  .intro h;obtain ⟨s',h1,h2,h3⟩:=q61.1 h;omega
def updS(src:Nat->Int)(x v:Int):Nat->Int:=fun k=>if (k:Int)=x then v else src k
def exA(A:Int->AT)(G:(Nat->Int)->Int):List Int->(Nat->Int)->Int
 | [],src=>G src
 | x :: xs,src=>exA A G xs (updS src x 0) * fac (A x) false+exA A G xs (updS src x 1) * fac (A x) true
def rowS:List Int->(Nat->Int)->Nat->Nat->Int
 | [],src,_=>src
 | x :: xs,src,i=>rowS xs (updS src x ((i / 2 ^ xs.length % 2:Nat):Int)) i
def denL(A:Int->AT):List Int->Int
 | []=>1
 | x :: xs=>denL A xs * (A x).1.2.1
theorem q767{A:Int->AT}{sup:List Int}{skip:Int}{i j:Nat}:∀ p,(∀ q,q<p->i / 2 ^ q % 2=j / 2 ^ q % 2)->wtP A sup i skip p=wtP A sup j skip p
 | 0,_=>rfl
 | p+1,h=>by unfold wtP; rw[q767 p fun q hq=>h q (by omega),h p (by omega)]
theorem q685{i j:Nat}:∀(xs:List Int)(src:Nat->Int),(∀ q,q<xs.length->i / 2 ^ q % 2=j / 2 ^ q % 2)->rowS xs src i=rowS xs src j
 | [],_,_=>rfl
 | x :: xs,src,h=>by unfold rowS;rw[h xs.length (by simp),q685 xs _ fun q hq=>h q (by simp; omega)]
theorem q752(A:Int->AT)(sup ys:List Int)(i:Nat)(skip:Int):∀ p,p<=sup.length->wtP A (sup++ys) i skip p=wtP A sup i skip p
 | 0,_=>rfl
 | p+1,h=>by unfold wtP;rw[q752 A sup ys i skip p (by omega),aH (by omega)]
theorem q788(A:Int->AT)(sup ys:List Int)(skip:Int):∀ p,p<=sup.length->dnP A (sup++ys) skip p=dnP A sup skip p
 | 0,_=>rfl
 | p+1,h=>by unfold dnP;rw[q788 A sup ys skip p (by omega),aH (by omega)]
theorem q756(A:Int->AT):∀ xs:List Int,dnP A xs.reverse (-1) xs.length=denL A xs
 | []=>rfl
 | x :: xs=>by have e:(x :: xs).length=xs.length+1:=rfl;rw[List.reverse_cons,e];unfold dnP denL;rw[if_neg (by omega),q788 A _ _ _ _ (by simp),q756 A xs,List.getElem?_append_right (by simp)];simp
theorem q681{n j:Nat}(hj:j<2 ^ n):(2 ^ n+j) / 2 ^ n % 2=1/\j / 2 ^ n % 2=0/\∀ q,q<n->(2 ^ n+j) / 2 ^ q % 2=j / 2 ^ q % 2:=by
 have hp:0<2 ^ n:=Nat.pow_pos (by omega);refine ⟨?_,?_,fun q hq=>?_⟩
 .rw[Nat.add_comm,Nat.add_div_right _ hp,Nat.div_eq_of_lt hj]
 .rw[Nat.div_eq_of_lt hj]
 .have e2:2 ^ n=2 ^ q * (2 * 2 ^ (n - q - 1)):=by rw[<- Nat.pow_succ',<- Nat.pow_add]; congr 1; omega
  rw[Nat.add_comm,e2,Nat.add_mul_div_left _ _ (Nat.pow_pos (by omega))];omega
theorem q622(A:Int->AT)(G:(Nat->Int)->Int):∀(xs:List Int)(src:Nat->Int),sumF (fun i=>G (rowS xs src i) * wtP A xs.reverse i (-1) xs.length) (2 ^ xs.length)=exA A G xs src
 | [],src=>by show sumF _ 1=_;simp[sumF,rowS,wtP,exA]
 | x :: xs,src=>by
  have e:(x :: xs).length=xs.length+1:=rfl;rw[e,Nat.pow_succ,Nat.mul_two,q487];unfold exA;rw[<- q622 A G xs (updS src x 0),<- q622 A G xs (updS src x 1),Int.mul_comm _ (fac (A x) false),Int.mul_comm _ (fac (A x) true),<- q504,<- q504];have hw:∀ i bit,i / 2 ^ xs.length % 2=bit->wtP A (x :: xs).reverse i (-1) (xs.length+1)=wtP A xs.reverse i (-1) xs.length * fac (A x) (decide (bit=1)):=fun i bit hb=>by
   rw[List.reverse_cons]
   conv=>lhs; unfold wtP
   rw[if_neg (by omega),q752 A _ _ _ _ _ (by simp),List.getElem?_append_right (by simp),hb];simp
  congr 1
  .refine q203 _ fun i hi=>?_;have hb:=(q681 hi).2.1;rw[hw i 0 hb]
   conv=>lhs; unfold rowS
   rw[hb];simp only[decide_eq_false (show ¬ (0=1) by decide)];show G (rowS xs (updS src x 0) i) * _=_;rw[<- Int.mul_assoc,Int.mul_comm]
  .refine q203 _ fun i hi=>?_;obtain ⟨hb,_,hl⟩:=q681 hi;rw[hw _ 1 hb,q767 xs.length hl]
   conv=>lhs; unfold rowS
   rw[hb,q685 xs _ hl];simp only[decide_true];show G (rowS xs (updS src x 1) i) * _=_;rw[<- Int.mul_assoc,Int.mul_comm]
theorem q435{A:Int->AT}{G:(Nat->Int)->Int}{D:Nat->Prop}(hG:∀ s t:Nat->Int,(∀ k,D k->s k=t k)->G s=G t):∀(xs:List Int)(s t:Nat->Int),(∀ k,D k->s k=t k)->exA A G xs s=exA A G xs t
 | [],s,t,h=>hG s t h
 | x :: xs,s,t,h=>by
  unfold exA;have hu:∀ v k,D k->updS s x v k=updS t x v k:=fun v k hk=>by
   unfold updS;split
   .rfl
   .exact h k hk
  rw[q435 hG xs _ _ (hu 0),q435 hG xs _ _ (hu 1)]
theorem q844(a:AT):fac a false+fac a true=a.1.2.1:=by unfold fac; simp
theorem q505(A:Int->AT)(G:(Nat->Int)->Int)(x:Int)(xs:List Int)(src:Nat->Int):exA A G (x :: xs) src=exA A G xs (updS src x 0) * fac (A x) false+exA A G xs (updS src x 1) * fac (A x) true:=rfl
theorem q241(A:Int->AT)(x:Int)(xs:List Int):denL A (x :: xs)=denL A xs * (A x).1.2.1:=rfl
theorem q698{A:Int->AT}{G:(Nat->Int)->Int}{D:Nat->Prop}(hG:∀ s t:Nat->Int,(∀ k,D k->s k=t k)->G s=G t)(q:Int->Bool):∀(xs:List Int),(∀ x∈xs,q x=false->∀ k,D k->(k:Int)≠x)->∀ src:Nat->Int,
 exA A G xs src=denL A (xs.filter fun x=>!q x) * exA A G (xs.filter q) src/\denL A xs=denL A (xs.filter fun x=>!q x) * denL A (xs.filter q)
 | [],_,src=>by simp[exA,denL]
 | x :: xs,h,src=>by
  have ih:=q698 (A:=A) hG q xs fun y hy=>h y (by simp[hy]);cases hq:q x with
  | true=>
   rw[List.filter_cons_of_neg (by simp[hq]),List.filter_cons_of_pos hq];rw[q505,q505,q241,q241,(ih (updS src x 0)).1,(ih (updS src x 1)).1,(ih src).2];refine ⟨?_,?_⟩
   .rw[Int.mul_add,Int.mul_assoc,Int.mul_assoc]
   .rw[Int.mul_assoc]
  | false=>
   rw[List.filter_cons_of_pos (by simp[hq]),List.filter_cons_of_neg (by simp[hq])];have hu:∀ v,exA A G xs (updS src x v)=exA A G xs src:=fun v=>q435 hG xs _ _ fun k hk=>by unfold updS;rw[if_neg (h x (by simp) hq k hk)]
   rw[q505,q241,q241,hu,hu,<- Int.mul_add,q844,(ih src).1,(ih src).2];constructor <;> simp only[Int.mul_assoc,Int.mul_comm,Int.mul_left_comm]
theorem q534{i:Nat}{k:Nat}:∀(xs:List Int)(src:Nat->Int),(k:Int)∉xs->rowS xs src i k=src k
 | [],_,_=>rfl
 | x :: xs,src,h=>by show rowS xs (updS src x _) i k=_;rw[q534 xs _ fun hm=>h (by simp[hm])];unfold updS;rw[if_neg fun e=>h (by simp[e])]
theorem q751{i:Nat}{k:Nat}:∀(xs:List Int)(src:Nat->Int),xs.Nodup->∀ p (hp:p<xs.reverse.length),xs.reverse[p]=(k:Int)->rowS xs src i k=((i / 2 ^ p % 2:Nat):Int)
 | [],_,_,p,hp,_=>absurd hp (by simp)
 | x :: xs,src,hn,p,hp,he=>by
  show rowS xs (updS src x _) i k=_;have hn':=List.nodup_cons.1 hn;by_cases h:p<xs.reverse.length
  .refine q751 xs _ hn'.2 p h ?_;rw[<- he];simp only[List.reverse_cons];rw[List.getElem_append_left h]
  .have hpe:p=xs.length:=by simp at hp h; omega
   subst hpe;have hx:x=(k:Int):=by rw[<- he];simp only[List.reverse_cons];rw[List.getElem_append_right (by simp)];simp
   rw[q534 xs _ (by rw[<- hx]; exact hn'.1)];unfold updS;rw[if_pos hx.symm]
theorem q597(f:List Int)(w:Nat->Int):∀ n,sumW f w n=sumF (fun i=>f[i]?.getD 0 * w i) n
 | 0=>rfl
 | n+1=>by unfold sumW sumF; rw[q597 f w n]
theorem q614{b:DBlock}{sup:List Int}(hn:sup.Nodup)(A:Int->AT)(k:Nat):
 sumW (funL b sup k) (fun i=>wtP A sup i (-1) sup.length) (2 ^ sup.length)=exA A (fun src=>val b src k) sup.reverse (fun _=>0):=by
 rw[q597,<- q622,List.reverse_reverse,List.length_reverse];refine q203 _ fun i hi=>?_;congr 1;rw[get0 (by rw[q133]; exact hi)];unfold funL;rw[List.getElem_map,List.getElem_range];refine q613 fun s _=>?_;by_cases hm:(s:Int)∈sup
 .obtain ⟨p,hp,e⟩:=List.getElem_of_mem hm;rw[q199 hn hp (by rw[q191]; exact hp) e,q363,q751 sup.reverse _ (by rw[List.Nodup,List.pairwise_reverse]; exact hn.imp fun h=>Ne.symm h) p (by simpa using hp) (by simpa using e)]
 .rw[q202 hm,q534 _ _ (by simpa using hm)]
theorem q598{b:DBlock}{l:List AT}{k:Nat}{U:List Int}(hS:Sup b U)(hf:U.filter (fun x=>decide (x∈supL b k))=supL b k)(hA:OkA (pickA (srcOf b) l) U)(hB:Bits01 (funL b (supL b k) k)):
 redF (sumW (funL b U k) (fun i=>wtP (pickA (srcOf b) l) U i (-1) U.length) (2 ^ U.length)) (dnP (pickA (srcOf b) l) U (-1) U.length)=probR b l k:=by
 have hs:=(q340 b k).nodup;have hU:=hS.nodup;unfold probR;have hden:∀ sup:List Int,dnP (pickA (srcOf b) l) sup (-1) sup.length=denL (pickA (srcOf b) l) sup.reverse:=fun sup=>by rw[<- q756,List.reverse_reverse,List.length_reverse]
 have hG:∀ s t:Nat->Int,(∀ j,SupP b k j->s j=t j)->(fun src=>val b src k) s=(fun src=>val b src k) t:=fun s t h=>q613 h;have hd:=q698 (A:=pickA (srcOf b) l) hG (fun x=>decide (x∈supL b k)) U.reverse (fun x hx hq j hj he=>by
  simp only[decide_eq_false_iff_not] at hq;apply hq;obtain ⟨s,h1,h2,h3⟩:=hS.src x (by simpa using hx);have:s=j:=by omega
  subst this;exact q61.2 ⟨s,h2,hj,h1⟩) (fun _=>0)
 rw[q614 hU,q614 hs,hden,hden,hd.1,hd.2,List.filter_reverse,List.filter_reverse,hf];have hpos:∀ xs:List Int,(∀ x∈xs,x∈U)->1<=denL (pickA (srcOf b) l) xs:=fun xs=>by
  induction xs with
  | nil=>intro _; exact Int.le_refl _
  | cons x xs ih=>
   intro h;rw[q241];have h1:=ih fun y hy=>h y (by simp[hy]);have h2:=(hA x (h x (by simp))).2.1.1;exact Int.le_trans (show (1:Int)<=1 * 1 by omega) (Int.mul_le_mul h1 h2 (by omega) (by omega))
 have hsub:∀ x∈(supL b k),x∈U:=fun x hx=>by rw[<- hf] at hx; exact (List.mem_filter.1 hx).1
 refine q764 ?_ ?_ (hpos _ fun x hx=>?_)
 .rw[<- q614 hs];have hok:OkA (pickA (srcOf b) l) (supL b k):=fun x hx=>hA x (hsub x hx);have h10:(0:Int)<10 ^ (supL b k).length:=Int.pow_pos (by omega);exact (q266 hB (Int.le_of_lt h10) (fun i=>q204 hok i (-1) _ (Nat.le_refl _)) _).1
 .exact Int.le_trans (by omega) (hpos _ fun x hx=>hsub x (by simpa using hx))
 .simp at hx; exact hx.1
section
variable {b:DBlock} {l:List AT} (hA:q98 b l)
include hA
end
section
variable {D:Int} (hD:1<=D)
include hD
end
section
variable {b:DBlock} (hB:BlockP b) {rank:Nat->Nat} (hr:RankP b rank) {l:List AT} (hA:q98 b l)
include hB hr
include hA
end
section
variable {b:DBlock} (hB:BlockP b) {rank:Nat->Nat} (hr:RankP b rank) {l:List AT} (hA:q98 b l)
include hB hr hA
end
section
variable {b:DBlock} {l:List AT} (hA:q98 b l) (k:Nat)
include hA
end
section
variable {N:Nat} (hM:1000000000000<=N) {b:DBlock} (hb:SmallB b)
include hM hb
end
end Go.Proofs.YtgldiandbkfmkaaGreatDoor
