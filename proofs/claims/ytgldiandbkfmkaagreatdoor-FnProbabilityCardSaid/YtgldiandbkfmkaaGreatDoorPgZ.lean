/- The reference's draws: what they hand back is small. No program in sight. The reference's draws of libraries and designs: what they hand back is small. No program in sight. The reference's draws of wires and blocks: what they hand back is small. No program in sight. The reference's draws of the logic's chapter: they end,and what they hand back is small. No program in sight. The reference's draws of activities: they end,and what they hand back is small. No program in sight. What the laws of the logic's chapter share. No program in sight. A net's probability over more sources than it leans on. No program in sight. Sums over all values of the sources: means,bounds,independence. No program in sight. The interval of a net holds its probability. No program in sight. A tree-like net's chance is its probability. No program in sight. Densities,their bound,their parts. No program in sight. -/
import Derived.Test.YtgldiandbkfmkaaGreatDoorPgX
import Derived.Test.YtgldiandbkfmkaaGreatDoorPgY
import Derived.Test.YtgldiandbkfmkaaGreatDoorPgF
namespace Go.Proofs.YtgldiandbkfmkaaGreatDoor
set_option linter.unusedSimpArgs false
set_option linter.unusedVariables false
set_option linter.unusedSectionVars false
set_option maxHeartbeats 1000000
abbrev Src:Type:=List Int×Int×Int×Unit
def SrcP(s:Src):Prop:=(0<=s.2.1/\s.1.length<4000000)/\(0<=s.2.2.1/\s.2.2.1<2147483647)/\∀ b∈s.1,BtwP 0 255 b
section
variable {N:Nat} (hN:HN N) {u:Unit}
theorem tmodB{a b:Int}(h0:0<=a)(hb:0<b):0<=a.tmod b/\a.tmod b<b:=⟨Int.tmod_nonneg b h0,Int.tmod_lt_of_pos a hb⟩
theorem q12{s:Src}(h:SrcP s)(n:Int):Ret (F_1 N (s,n,u)) (fun r=>(0<=r.1.1/\(r.1.1=0\/r.1.1<n))/\SrcP r.2):=by
 obtain ⟨code,at0,seed,u0⟩:=s;obtain ⟨⟨h1,h2⟩,⟨h3,h4⟩,h5⟩:=h;dsimp only at h1 h2 h3 h4 h5;unfold F_1;dsimp only;refine rh (fun hn=>rb ⟨⟨Int.le_refl _,.inl rfl⟩,⟨h1,h2⟩,⟨h3,h4⟩,h5⟩) fun hn=>rh (fun ha=>?_) fun ha=>?_
 .have hlt:at0.toNat<code.length:=by omega
  refine vd h1 hlt ?_;have hb:=h5 _ (aR hlt);unfold BtwP at hb;generalize code[at0.toNat]=e at hb |-;rw[wrapI (n:=e) (by omega) (by omega),wrapI (n:=at0+1) (by omega) (by omega)];refine rh (fun h6=>rz (by omega) (rb ?_)) fun h6=>rz (by omega) (rb ?_)
  .have:=tmodB (a:=e) (b:=n) hb.1 (by omega);exact ⟨⟨this.1,.inr this.2⟩,⟨by dsimp only; omega,h2⟩,⟨h3,h4⟩,h5⟩
  .rw[wrapI (n:=seed * 48271) (by omega) (by omega),wrapI (n:=seed * 48271+e) (by omega) (by omega),wrapI (n:=seed * 48271+e+1) (by omega) (by omega)];have k1:=tmodB (a:=seed * 48271+e+1) (b:=2147483647) (by omega) (by omega);have k2:=tmodB (a:=(seed * 48271+e+1).tmod 2147483647) (b:=n) k1.1 (by omega);exact ⟨⟨k2.1,.inr k2.2⟩,⟨by dsimp only; omega,h2⟩,k1,h5⟩
 .refine rz (by omega) (rb ?_);rw[wrapI (n:=seed * 48271) (by omega) (by omega),wrapI (n:=seed * 48271+11) (by omega) (by omega)];have k1:=tmodB (a:=seed * 48271+11) (b:=2147483647) (by omega) (by omega);have k3:0<=((seed * 48271+11).tmod 2147483647).tdiv 7/\((seed * 48271+11).tmod 2147483647).tdiv 7<=2147483647:=by rw[Int.tdiv_eq_ediv_of_nonneg k1.1];omega
  rw[wrapI (by omega) (by omega)];have k2:=tmodB (b:=n) k3.1 (by omega);exact ⟨⟨k2.1,.inr k2.2⟩,⟨h1,h2⟩,k1,h5⟩
theorem appOk{B M:Type}{R:M->Prop}{l:List B}{a:B}{x:Option M}(h:l.length<4000000)(h1:Ret x R):Ret (bif decide ((l++[a]).length<=lim) then x else none) R:=
 rk (by simp; unfold lim; omega) h1
theorem lenOk{B M:Type}{R:M->Prop}{l:List B}{x:Option M}(h:l.length<4000000)(h1:Ret x R):Ret (bif decide (l.length<=lim) then x else none) R:=
 rk (by unfold lim; omega) h1
include hN in
theorem q204{s:Src}(h:SrcP s)(n:Int):Ret (F_3 N (s,n,u)) (fun r=>(1<=r.1.1.length/\r.1.1.length<=3)/\SrcP r.2):=by
 unfold F_3;dsimp only;refine Ret.bind (q12 h n) ?_;rintro ⟨⟨a,u1⟩,s1⟩ ⟨_,hs1⟩;dsimp only at hs1 |-;refine Ret.bind (q12 hs1 3) ?_;rintro ⟨⟨c,u2⟩,s2⟩ ⟨hc,hs2⟩;dsimp only at hc hs2 |-;rw[wrapI (n:=1+c) (by omega) (by omega)];refine va (I:=fun(s:Int×Int×Src×List Int×Unit)=>0<=s.2.1/\s.2.1+s.2.2.2.1.length=1+c/\SrcP s.2.2.1) (T:=fun s=>s.2.1.toNat) ?_ N _ ⟨by dsimp only; omega,by simp,hs2⟩ (by dsimp only; omega);rintro ⟨at1,k,s',out,u3⟩ next ⟨h1,h2,h3⟩ hnext
 dsimp only at h1 h2 h3 |-;refine rh (fun hk=>?_) fun hk=>rb ⟨by dsimp only; omega,h3⟩;refine appOk (by omega) ?_;refine Ret.bind (q12 h3 n) ?_;rintro ⟨⟨d,u4⟩,s4⟩ ⟨_,hs4⟩;dsimp only at hs4 |-;rw[wrapI (n:=k - 1) (by omega) (by omega)];exact hnext _ ⟨by dsimp only; omega,by simp; omega,hs4⟩ (by dsimp only; omega)
include hN in
theorem q361{s:Src}(h:SrcP s)(n:Int):Ret (F_4 N (s,n,u)) (fun r=>SmallT r.1.1/\SrcP r.2):=by
 unfold F_4;dsimp only;refine Ret.bind (q204 hN h 60) ?_;rintro ⟨⟨sl,u1⟩,s1⟩ ⟨hsl,hs1⟩;dsimp only at hsl hs1 |-;refine Ret.bind (q204 hN hs1 40) ?_;rintro ⟨⟨ll,u2⟩,s2⟩ ⟨hll,hs2⟩;dsimp only at hll hs2 |-;have hm:sl.length * ll.length<=3 * 3:=Nat.mul_le_mul hsl.2 hll.2;have hm':((sl.length:Int) * (ll.length:Int))=((sl.length * ll.length:Nat):Int):=by simp
 rw[hm',wrapI (n:=((sl.length * ll.length:Nat):Int)) (by omega) (by omega)];generalize hL:sl.length * ll.length=L at hm;refine rq L (fun i (s:Src×List Int×Unit)=>SrcP s.1/\s.2.1.length=i) (by omega) (by omega) ⟨hs2,rfl⟩ ?_ ?_
 .rintro i ⟨s',vs,u3⟩ next hi ⟨h1,h2⟩ hnext
  dsimp only at h1 h2 hnext |-;refine rf (by omega) ?_;refine Ret.bind (q12 h1 10) ?_;rintro ⟨⟨d,u4⟩,s4⟩ ⟨hd,hs4⟩;dsimp only at hs4 |-;refine rz (by omega) ?_;have hmod:((i:Int).tmod (ll.length:Int))=((i % ll.length:Nat):Int):=rfl;rw[hmod];have hz:0<i % ll.length->1<=i:=fun h=>by
   rcases Nat.eq_zero_or_pos i with h0 | h0
   .subst h0; simp at h
   .exact h0
  refine rh (fun hp=>?_) fun hp=>?_
  .have hi1:=hz (by omega);rw[wrapI (n:=(i:Int) - 1) (by omega) (by omega)];refine rt (by omega) (by omega) (rl (by omega) ?_);refine Ret.bind (q12 hs4 20) ?_;rintro ⟨⟨d5,u5⟩,s5⟩ ⟨_,hs5⟩;dsimp only at hs5 |-;refine rh (fun hq=>?_) fun hq=>?_
   .rw[wrapI (n:=(i:Int) - (ll.length:Int)) (by omega) (by omega)];refine rt (by omega) (by omega) (rl (by omega) ?_);refine Ret.bind (q12 hs5 20) ?_;rintro ⟨⟨d6,u6⟩,s6⟩ ⟨_,hs6⟩;dsimp only at hs6 |-;exact appOk (by omega) (hnext _ ⟨hs6,by simp; omega⟩)
   .exact appOk (by omega) (hnext _ ⟨hs5,by simp; omega⟩)
  .refine rh (fun hq=>?_) fun hq=>?_
   .rw[wrapI (n:=(i:Int) - (ll.length:Int)) (by omega) (by omega)];refine rt (by omega) (by omega) (rl (by omega) ?_);refine Ret.bind (q12 hs4 20) ?_;rintro ⟨⟨d6,u6⟩,s6⟩ ⟨_,hs6⟩;dsimp only at hs6 |-;exact appOk (by omega) (hnext _ ⟨hs6,by simp; omega⟩)
   .exact appOk (by omega) (hnext _ ⟨hs4,by simp; omega⟩)
 .rintro ⟨s',vs,u3⟩ next ⟨h1,h2⟩
  dsimp only at h1 h2 |-;refine rd (by omega) (rb ⟨⟨?_,?_,?_⟩,h1⟩) <;> dsimp only <;> omega
include hN in
theorem q95{s:Src}(h:SrcP s)(n:Int):Ret (F_5 N (s,n,u)) (fun r=>q399 r.1.1/\SrcP r.2):=by
 unfold F_5;dsimp only;refine Ret.bind (q361 hN h n) ?_;rintro ⟨⟨t1,u1⟩,s1⟩ ⟨h1,hs1⟩;dsimp only at h1 hs1 |-;refine Ret.bind (q361 hN hs1 n) ?_;rintro ⟨⟨t2,u2⟩,s2⟩ ⟨h2,hs2⟩;refine rb ⟨⟨by simp,fun t ht=>?_⟩,hs2⟩;simp only[List.mem_cons,List.not_mem_nil,or_false] at ht;rcases ht with rfl | rfl
 .exact h1
 .exact h2
include hN in
theorem q83{s:Src}(h:SrcP s)(k a b c:Int):Ret (F_6 N (s,k,a,b,c,u)) (fun r=>SmallA r.1.1/\SrcP r.2):=by
 unfold F_6;dsimp only;refine rh (fun _=>?_) fun _=>?_
 .refine Ret.bind (q12 h 10) ?_;rintro ⟨⟨d,u1⟩,s1⟩ ⟨_,hs1⟩;dsimp only at hs1 |-;refine Ret.bind (q95 hN hs1 _) ?_;rintro ⟨⟨ts,u2⟩,s2⟩ ⟨h2,hs2⟩;exact rb ⟨⟨h2,by simp,by simp⟩,hs2⟩
 .refine Ret.bind (q12 h 20) ?_;rintro ⟨⟨d,u1⟩,s1⟩ ⟨_,hs1⟩;dsimp only at hs1 |-;refine Ret.bind (q95 hN hs1 _) ?_;rintro ⟨⟨ts,u2⟩,s2⟩ ⟨h2,hs2⟩;dsimp only at h2 hs2 |-;refine Ret.bind (q95 hN hs2 _) ?_;rintro ⟨⟨ts3,u3⟩,s3⟩ ⟨h3,hs3⟩;exact rb ⟨⟨h2,h3⟩,hs3⟩
def q331(N:Nat)(t:List Int)(k:Nat):Prop:=∀(a:ByteArray)(b:Int)(c:List DPin)(d:List DArc)(e f:Int)(u v:Unit)(pin:Nat),pin<k->∃ r,F_2 N ((a,b,c,d,t,e,f,u),(pin:Int),v)=some r
include hN in
theorem q115{s:Src}(h:SrcP s){nm:ByteArray}(hnm:nm.size<4000000){t:List Int}{K:Nat}(hK:(t.length=2/\K=1)\/(t.length=4/\K=2)\/(t.length=8/\K=3))(hS:q331 N t K):
 Ret (F_7 N (s,nm,t,u)) (fun r=>SmallC r.1.1/\SrcP r.2):=by
 unfold F_7;dsimp only;refine Ret.bind (q12 h 50) ?_;rintro ⟨⟨d1,u1⟩,s1⟩ ⟨_,hs1⟩;dsimp only at hs1 |-;refine Ret.bind (q12 hs1 80) ?_;rintro ⟨⟨d2,u2⟩,s2⟩ ⟨_,hs2⟩;dsimp only at hs2 |-;refine va (I:=fun(s:Int×Src×List DPin×Unit)=>((s.1=1/\s.2.2.1.length=0)\/(s.1=2/\s.2.2.1.length=1)\/(s.1=4/\s.2.2.1.length=2)\/(s.1=8/\s.2.2.1.length=3))/\s.1<=t.length/\SrcP s.2.1/\∀ p∈s.2.2.1,p.1.size<4000000) (T:=fun s=>(16 - s.1).toNat) ?_ N _ ⟨.inl ⟨rfl,rfl⟩,by dsimp only; omega,hs2,by simp⟩ (by dsimp only; omega);rintro ⟨n,s3,pins,u3⟩ next ⟨h1,h2,h3,h4⟩ hnext
 dsimp only at h1 h2 h3 h4 |-;refine rh (fun hn=>?_) fun hn=>?_
 .have hl:pins.length<[(⟨#[97]⟩:ByteArray),(⟨#[98]⟩:ByteArray),(⟨#[99]⟩:ByteArray),(⟨#[100]⟩:ByteArray)].length:=by simp; omega
  refine ri hl ?_;have e0:((pins.length:Int)).toNat=pins.length:=by omega
  rw[e0];refine rl hl ?_;have hnm:([(⟨#[97]⟩:ByteArray),(⟨#[98]⟩:ByteArray),(⟨#[99]⟩:ByteArray),(⟨#[100]⟩:ByteArray)][pins.length]).size<4000000:=by have:=aR hl;simp only[List.mem_cons,List.not_mem_nil,or_false] at this;rcases this with h | h | h | h <;> rw[h] <;> decide
  refine Ret.bind (q12 h3 9) ?_;rintro ⟨⟨d5,u5⟩,s5⟩ ⟨_,hs5⟩;dsimp only at hs5 |-;refine appOk (by omega) ?_;rw[wrapI (n:=2 * n) (by omega) (by omega)];refine hnext _ ⟨by simp only[aY,aF,List.length_nil]; omega,by dsimp only; omega,hs5,fun p hp=>?_⟩ (by dsimp only; omega);rcases List.mem_append.1 hp with hp | hp
  .exact h4 p hp
  .simp only[List.mem_cons,List.not_mem_nil,or_false] at hp;subst hp; exact hnm
 .refine appOk (by omega) ?_;have hpk:pins.length=K:=by omega
  refine rq pins.length (fun i (s:Src×List DArc×Unit)=>SrcP s.1/\s.2.1.length<=i/\∀ a∈s.2.1,SmallA a) (by omega) (by omega) ⟨h3,by simp,by simp⟩ ?_ ?_
  .rintro i ⟨s',arcs,u6⟩ next2 hi ⟨g1,g2,g3⟩ hnext2;dsimp only at g1 g2 g3 hnext2 |-;refine rf (by omega) ?_;obtain ⟨r,hr⟩:=hS nm 1 (pins++[((⟨#[121]⟩:ByteArray),(2:Int),(0:Int),false,())]) [] d1 d2 u2 () i (by omega);refine ra hr ?_;refine rm (fun _=>?_) fun _=>hnext2 _ ⟨g1,by dsimp only; omega,g3⟩;refine Ret.bind (q83 hN g1 _ _ _ _) ?_;rintro ⟨⟨ac,u7⟩,s7⟩ ⟨ha,hs7⟩;dsimp only at ha hs7 |-;refine appOk (by omega) (hnext2 _ ⟨hs7,by simp; omega,fun a hp=>?_⟩);rcases List.mem_append.1 hp with hp | hp
   .exact g3 a hp
   .simp only[List.mem_cons,List.not_mem_nil,or_false] at hp;subst hp; exact ha
  .rintro ⟨s',arcs,u6⟩ next2 ⟨g1,g2,g3⟩;dsimp only at g1 g2 g3 |-;refine rd (by omega) (rb ⟨⟨hnm,⟨by simp; omega,fun p hp=>?_⟩,⟨by dsimp only; omega,g3⟩,by dsimp only; omega⟩,g1⟩);rcases List.mem_append.1 hp with hp | hp
   .exact h4 p hp
   .simp only[List.mem_cons,List.not_mem_nil,or_false] at hp;subst hp; show (ByteArray.mk #[121]).size<4000000; decide
include hN in
theorem q116{s:Src}(h:SrcP s){nm:ByteArray}(hnm:nm.size<4000000)(k e:Int):Ret (F_8 N (s,nm,k,e,u)) (fun r=>SmallC r.1.1/\SrcP r.2):=by
 unfold F_8;dsimp only;refine Ret.bind (q12 h 50) ?_;rintro ⟨⟨d1,u1⟩,s1⟩ ⟨_,hs1⟩;dsimp only at hs1 |-;refine Ret.bind (q12 hs1 80) ?_;rintro ⟨⟨d2,u2⟩,s2⟩ ⟨_,hs2⟩;dsimp only at hs2 |-;refine Ret.bind (q12 hs2 9) ?_;rintro ⟨⟨d3,u3⟩,s3⟩ ⟨_,hs3⟩;dsimp only at hs3 |-;refine Ret.bind (q12 hs3 9) ?_;rintro ⟨⟨d4,u4⟩,s4⟩ ⟨_,hs4⟩;dsimp only at hs4 |-;refine Ret.bind (q83 hN hs4 _ _ _ _) ?_;rintro ⟨⟨a5,u5⟩,s5⟩ ⟨ha5,hs5⟩;dsimp only at ha5 hs5 |-;refine Ret.bind (q83 hN hs5 _ _ _ _) ?_;rintro ⟨⟨a6,u6⟩,s6⟩ ⟨ha6,hs6⟩;dsimp only at ha6 hs6 |-;refine Ret.bind (q83 hN hs6 _ _ _ _) ?_;rintro ⟨⟨a7,u7⟩,s7⟩ ⟨ha7,hs7⟩;dsimp only at ha7 hs7 |-;have hp:∀(x y:Int),q193 [((⟨#[100]⟩:ByteArray),(1:Int),x,false,()),((⟨#[99,107]⟩:ByteArray),(1:Int),y,true,()),((⟨#[113]⟩:ByteArray),(2:Int),(0:Int),false,())]:=fun x y=>⟨by simp,fun p hp=>by simp only[List.mem_cons,List.not_mem_nil,or_false] at hp;rcases hp with rfl | rfl | rfl <;> (dsimp only; decide)⟩;refine rh (fun _=>?_) fun _=>?_
 .refine Ret.bind (q83 hN hs7 _ _ _ _) ?_;rintro ⟨⟨a8,u8⟩,s8⟩ ⟨ha8,hs8⟩;dsimp only at ha8 hs8 |-;refine appOk (by simp) (rb ⟨⟨hnm,hp _ _,⟨by simp,fun a ha=>?_⟩,by simp⟩,hs8⟩);simp only[List.mem_append,List.mem_cons,List.not_mem_nil,or_false] at ha;rcases ha with (rfl | rfl | rfl) | rfl <;> assumption
 .refine rb ⟨⟨hnm,hp _ _,⟨by simp,fun a ha=>?_⟩,by simp⟩,hs7⟩;simp only[List.mem_cons,List.not_mem_nil,or_false] at ha;rcases ha with rfl | rfl | rfl <;> assumption
end
set_option maxHeartbeats 2000000
open Go.RowKit
section
variable {N:Nat} (hN:HN N) {u:Unit}
theorem q791(M:Nat):q331 (M+16) [1,0] 1:=fun a b c d e f u v pin hp=>by
 obtain rfl:pin=0:=by omega
 exact ⟨(2,()),by kernel_rfl⟩
theorem q786(M:Nat):q331 (M+16) [0,1] 1:=fun a b c d e f u v pin hp=>by
 obtain rfl:pin=0:=by omega
 exact ⟨(1,()),by kernel_rfl⟩
theorem q740(M:Nat):q331 (M+16) [1,1,1,0] 2:=fun a b c d e f u v pin hp=>by
 rcases (show pin=0\/pin=1 by omega) with rfl | rfl
 .exact ⟨(2,()),by kernel_rfl⟩
 .exact ⟨(2,()),by kernel_rfl⟩
theorem q816(M:Nat):q331 (M+16) [0,1,1,0] 2:=fun a b c d e f u v pin hp=>by
 rcases (show pin=0\/pin=1 by omega) with rfl | rfl
 .exact ⟨(3,()),by kernel_rfl⟩
 .exact ⟨(3,()),by kernel_rfl⟩
theorem q803(M:Nat):q331 (M+16) [0,1,0,1,0,0,1,1] 3:=fun a b c d e f u v pin hp=>by
 rcases (show pin=0\/pin=1\/pin=2 by omega) with rfl | rfl | rfl
 .exact ⟨(1,()),by kernel_rfl⟩
 .exact ⟨(1,()),by kernel_rfl⟩
 .exact ⟨(3,()),by kernel_rfl⟩
include hN in
theorem q551{s:Src}(h:SrcP s):Ret (F_9 N (s,u)) (fun r=>SmallL r.1.1/\SrcP r.2):=by unfold F_9;dsimp only;obtain ⟨M,rfl⟩:∃ M,N=M+16:=⟨N - 16,by omega⟩;refine Ret.bind (q115 hN h (by decide) (.inl ⟨rfl,rfl⟩) (q791 M)) ?_;rintro ⟨⟨c1,u1⟩,s1⟩ ⟨h1,hs1⟩;dsimp only at h1 hs1 |-;refine Ret.bind (q115 hN hs1 (by decide) (.inl ⟨rfl,rfl⟩) (q786 M)) ?_;rintro ⟨⟨c2,u2⟩,s2⟩ ⟨h2,hs2⟩;dsimp only at h2 hs2 |-;refine Ret.bind (q115 hN hs2 (by decide) (.inr (.inl ⟨rfl,rfl⟩)) (q740 M)) ?_;rintro ⟨⟨c3,u3⟩,s3⟩ ⟨h3,hs3⟩;dsimp only at h3 hs3 |-;refine Ret.bind (q115 hN hs3 (by decide) (.inr (.inl ⟨rfl,rfl⟩)) (q816 M)) ?_;rintro ⟨⟨c4,u4⟩,s4⟩ ⟨h4,hs4⟩;dsimp only at h4 hs4 |-;refine Ret.bind (q115 hN hs4 (by decide) (.inr (.inr ⟨rfl,rfl⟩)) (q803 M)) ?_;rintro ⟨⟨c5,u5⟩,s5⟩ ⟨h5,hs5⟩;dsimp only at h5 hs5 |-;refine Ret.bind (q116 hN hs5 (by decide) _ _) ?_;rintro ⟨⟨c6,u6⟩,s6⟩ ⟨h6,hs6⟩;dsimp only at h6 hs6 |-;refine Ret.bind (q116 hN hs6 (by decide) _ _) ?_;rintro ⟨⟨c7,u7⟩,s7⟩ ⟨h7,hs7⟩;dsimp only at h7 hs7 |-;refine Ret.bind (q116 hN hs7 (by decide) _ _) ?_;rintro ⟨⟨c8,u8⟩,s8⟩ ⟨h8,hs8⟩;dsimp only at h8 hs8 |-;refine rb ⟨⟨by simp,fun c hc=>?_⟩,hs8⟩;simp only[List.mem_cons,List.not_mem_nil,or_false] at hc;rcases hc with rfl | rfl | rfl | rfl | rfl | rfl | rfl | rfl <;> assumption
theorem q380(n:Int):(strOf [n]).size=1:=by simp[strOf]
theorem q850(M:Nat){n:Nat}(hn:n<100):Ret (F_10 N (M+3) ((n:Int),u)) (fun r=>r.1.size<=2):=by
 unfold F_10;dsimp only;refine rd (by omega) ?_;refine rh (fun _=>rb (by dsimp only; rw[q380]; omega)) fun h10=>?_;have hd:((n:Int).tdiv 10)=((n / 10:Nat):Int):=rfl;rw[hd,wrapI (n:=((n / 10:Nat):Int)) (by omega) (by omega)];refine Ret.bind (Q:=fun r=>r.1.size<=1) ?_ ?_
 .unfold F_10;dsimp only;refine rd (by omega) (rf (by omega) (rb ?_));dsimp only;rw[q380]; omega
 .rintro ⟨t,u2⟩ ht;dsimp only at ht |-;refine rk (by rw[q380]; unfold limS; omega) (rb ?_);dsimp only;rw[ByteArray.size_append,q380]; omega
def InsQ(x:DInstance):Prop:=x.1.size<100/\1<=x.2.2.1.length/\x.2.2.1.length<=5
def DesQ(d:DDesign):Prop:=(d.1.length<=10/\∀ x∈d.1,InsQ x)/\(3<=d.2.1.length/\d.2.1.length<=20/\∀ s∈d.2.1,s.size<100)/\(1<=d.2.2.1.length/\d.2.2.1.length<=6/\∀ p∈d.2.2.1,p.1.size<100)
theorem q707{d:DDesign}(h:DesQ d):Few d:=⟨by have:=h.1.1; omega,fun x hx=>(h.1.2 x hx).2.2,by have:=h.2.2.2.1; omega⟩
theorem q334{d:DDesign}(h:DesQ d):SmallD d:=
 ⟨⟨by have:=h.1.1; omega,fun x hx=>⟨by have:=(h.1.2 x hx).1; omega,by have:=(h.1.2 x hx).2.2; omega⟩⟩,⟨by have:=h.2.1.2.1; omega,fun s hs=>by have:=h.2.1.2.2 s hs; omega⟩,⟨by have:=h.2.2.2.1; omega,fun p hp=>by have:=h.2.2.2.2 p hp; omega⟩⟩
theorem q377{B:Type}{P:B->Prop}{l:List B}{a:B}(h:∀ x∈l,P x)(ha:P a):∀ x∈l++[a],P x:=fun x hx=>by
 rcases List.mem_append.1 hx with hx | hx
 .exact h x hx
 .simp only[List.mem_cons,List.not_mem_nil,or_false] at hx;subst hx; exact ha
theorem q333{B:Type}{P:B->Prop}{l:List B}{a:B}{i:Nat}(h:∀ x∈l,P x)(ha:P a):∀ x∈l.set i a,P x:=fun x hx=>by
 rcases List.mem_or_eq_of_mem_set hx with hx | rfl
 .exact h x hx
 .exact ha
include hN in
theorem q576{s:Src}(h:SrcP s){most:Int}(hm:2<=most/\most<=10)(wild:Bool):Ret (F_11 N (s,most,wild,u)) (fun r=>DesQ r.1.1/\SrcP r.2):=by
 unfold F_11;dsimp only;refine lenOk (by simp) ?_;rw[wrapI (n:=most - 1) (by omega) (by omega)];refine Ret.bind (q12 h (most - 1)) ?_;rintro ⟨⟨d1,u1⟩,s1⟩ ⟨hd1,hs1⟩;dsimp only at hd1 hs1 |-;rw[wrapI (n:=2+d1) (by omega) (by omega)]
 refine va (I:=fun(s:Int×Src×List DInstance×List ByteArray×Unit)=>(0<=s.1/\s.1+s.2.2.1.length=2+d1)/\SrcP s.2.1/\s.2.2.2.1.length=3+s.2.2.1.length/\(∀ x∈s.2.2.1,InsQ x)/\∀ n∈s.2.2.2.1,n.size<100) (T:=fun s=>s.1.toNat) ?_ N _
  ⟨⟨by dsimp only; omega,by simp⟩,hs1,by simp,by simp,fun n hn=>by simp only[List.nil_append,List.mem_cons,List.not_mem_nil,or_false] at hn;rcases hn with rfl | rfl | rfl <;> decide⟩ (by dsimp only; omega)
 rintro ⟨n,s2,insts,nets,u2⟩ next ⟨⟨hn0,hn1⟩,hs2,hnl,hins,hnets⟩ hnext
 dsimp only at hn0 hn1 hs2 hnl hins hnets |-;refine rh (fun hn=>?_) fun hn=>?_
 .refine Ret.bind (q12 hs2 12) ?_;rintro ⟨⟨c,u3⟩,s3⟩ ⟨hc,hs3⟩;dsimp only at hc hs3 |-;have hcl:c.toNat<[(0:Int),(1:Int),(2:Int),(2:Int),(3:Int),(4:Int),(5:Int),(5:Int),(5:Int),(6:Int),(7:Int),(1:Int)].length:=by simp; omega
  refine rt hc.1 (by omega) (rl hcl ?_);have hce:∀ v∈[(0:Int),(1:Int),(2:Int),(2:Int),(3:Int),(4:Int),(5:Int),(5:Int),(5:Int),(6:Int),(7:Int),(1:Int)],0<=v/\v<=7:=by decide
  have hce:=hce _ (aR hcl);generalize [(0:Int),(1:Int),(2:Int),(2:Int),(3:Int),(4:Int),(5:Int),(5:Int),(5:Int),(6:Int),(7:Int),(1:Int)][c.toNat]=cell at hce |-;obtain ⟨M,hM⟩:∃ M,N=M+3:=⟨N - 3,by omega⟩;have hnum:∀(k:Nat),k<100->Ret (F_10 N N ((k:Int),())) (fun r=>r.1.size<=2):=fun k hk=>by
   have:=q850 (N:=N) (u:=()) M hk
   rwa [<- hM] at this
  refine Ret.bind (hnum insts.length (by omega)) ?_;rintro ⟨nm,u4⟩ hnm;dsimp only at hnm |-;refine rk (by show 1+nm.size<=limS; unfold limS; omega) ?_;have hpl:cell.toNat<[(2:Int),(2:Int),(3:Int),(3:Int),(4:Int),(3:Int),(3:Int),(3:Int)].length:=by simp; omega
  have hpe:∀ v∈[(2:Int),(2:Int),(3:Int),(3:Int),(4:Int),(3:Int),(3:Int),(3:Int)],2<=v/\v<=4:=by decide
  have hpe:=hpe _ (aR hpl);have hpg:[(2:Int),(2:Int),(3:Int),(3:Int),(4:Int),(3:Int),(3:Int),(3:Int)][cell.toNat]?=some [(2:Int),(2:Int),(3:Int),(3:Int),(4:Int),(3:Int),(3:Int),(3:Int)][cell.toNat]:=aW hpl;generalize [(2:Int),(2:Int),(3:Int),(3:Int),(4:Int),(3:Int),(3:Int),(3:Int)][cell.toNat]=p at hpe hpg
  refine va (I:=fun(s:Int×Src×(ByteArray×Int×Unit)×List Int×Unit)=>(0<=s.1/\s.1<=p - 1)/\SrcP s.2.1/\s.2.2.1.1.size<100/\(s.2.2.2.1.length:Int)=s.1) (T:=fun s=>(p - 1 - s.1).toNat) ?_ N _
   ⟨⟨by dsimp only; omega,by dsimp only; omega⟩,hs3,by dsimp only; rw[ByteArray.size_append]; show 1+nm.size<100; omega,by simp⟩ (by dsimp only; omega)
  rintro ⟨pin,s4,⟨x1,x2,u5⟩,xn,u6⟩ next2 ⟨⟨hp0,hp1⟩,hs4,hx1,hxn⟩ hnext2;dsimp only at hp0 hp1 hs4 hx1 hxn |-;refine rt hce.1 (by simp; omega) (ra hpg ?_);rw[wrapI (n:=p - 1) (by omega) (by omega)];have leaf:∀{v:Int}{s5:Src}{y:Option ((DDesign×Unit)×Src)},SrcP s5->pin<p - 1->y=next2 (wq (pin+1),s5,(x1,x2,u5),(([]++xn)++[v]),())->Ret (bif decide (([]++xn).length<=lim) then (bif decide ((([]++xn)++[v]).length<=lim) then y else none) else none) (fun r=>DesQ r.1.1/\SrcP r.2):=fun {v s5 y} hs5 hlt hy=>by refine lenOk (by simp; omega) (appOk (by simp; omega) ?_);rw[hy,wrapI (n:=pin+1) (by omega) (by omega)];exact hnext2 _ ⟨⟨by dsimp only; omega,by dsimp only; omega⟩,hs5,hx1,by simp; omega⟩ (by dsimp only; omega)
  refine rh (fun hlt=>?_) fun hge=>?_
  .refine Ret.bind (q12 hs4 _) ?_;rintro ⟨⟨a1,u7⟩,s5⟩ ⟨_,hs5⟩;dsimp only at hs5 |-;refine Ret.bind (q12 hs5 3) ?_;rintro ⟨⟨a2,u8⟩,s6⟩ ⟨_,hs6⟩;dsimp only at hs6 |-;refine rh (fun _=>rh (fun _=>rh (fun _=>leaf hs6 hlt rfl) fun _=>leaf hs6 hlt rfl) fun _=>leaf hs6 hlt rfl) fun _=>rh (fun _=>rh (fun _=>leaf hs6 hlt rfl) fun _=>leaf hs6 hlt rfl) fun _=>leaf hs6 hlt rfl
  .refine lenOk (by simp; omega) (appOk (by simp; omega) ?_);refine Ret.bind (hnum nets.length (by omega)) ?_;rintro ⟨nm2,u7⟩ hnm2;dsimp only at hnm2 |-;refine rk (by show 1+nm2.size<=limS; unfold limS; omega) ?_;refine appOk (by omega) (appOk (by omega) ?_);rw[wrapI (n:=n - 1) (by omega) (by omega)];refine hnext _ ⟨⟨by dsimp only; omega,by simp; omega⟩,hs4,by simp; omega,q377 hins ⟨hx1,by simp,by simp; omega⟩,q377 hnets ?_⟩ (by dsimp only; omega);rw[ByteArray.size_append];show 1+nm2.size<100;omega
 .have hnz:n=0:=by omega
  refine rq insts.length (fun i (s:Src×List DInstance×Unit)=>SrcP s.1/\s.2.1.length=insts.length/\∀ x∈s.2.1,InsQ x) (by omega) (by omega) ⟨hs2,rfl,hins⟩ ?_ ?_
  .rintro i ⟨s3,ins,u3⟩ next2 hi ⟨hs3,hl,hq⟩ hnext2;dsimp only at hs3 hl hq hnext2 |-;have hi':i<ins.length:=by omega
   have e0:((i:Int)).toNat=i:=by omega
   have leaf:∀{s5:Src}{y:Src->List DInstance->Option ((DDesign×Unit)×Src)},SrcP s5->(∀ s6 l,y s6 l=next2 (wq ((i:Int)+1),s6,l,()))->Ret (bif inI (i:Int) ins.length then obind (ins[(i:Int).toNat]?) fun _=>obind (F_1 N (s5,(wq ((nets.length:Int) - (1:Int))),())) fun r51=>obind (ins[(i:Int).toNat]?) fun e52=>
    (bif inI (0:Int) e52.2.2.1.length then obind (ins[(i:Int).toNat]?) fun e53=>obind (e53.2.2.1[(0:Int).toNat]?) fun _=>y r51.2 (ins.set (i:Int).toNat (e53.1,e53.2.1,(e53.2.2.1.set ((0:Int).toNat) (wq ((1:Int)+r51.1.1))),())) else none) else none) (fun r=>DesQ r.1.1/\SrcP r.2):=fun {s5 y} hs5 hy=>by
    have hx:=hq _ (aR hi');rw[e0];refine ri hi' (rl hi' ?_);refine Ret.bind (q12 hs5 _) ?_;rintro ⟨⟨a1,u7⟩,s6⟩ ⟨_,hs6⟩;dsimp only at hs6 |-;refine rl hi' (rt (by omega) (by have:=hx.2.1; omega) (rl hi' (rl (by have:=hx.2.1; show 0<_; omega) ?_)));rw[hy];exact hnext2 _ ⟨hs6,by simpa using hl,q333 hq ⟨hx.1,by simpa using hx.2.1,by simpa using hx.2.2⟩⟩
   refine rf (by omega) ?_;refine Ret.bind (q12 hs3 4) ?_;rintro ⟨⟨a1,u7⟩,s5⟩ ⟨_,hs5⟩;dsimp only at hs5 |-;refine rh (fun _=>?_) fun _=>hnext2 _ ⟨hs5,hl,hq⟩;refine ri hi' ?_;refine ra (show ins[(i:Int).toNat]?=some ins[i] by rw[e0]; exact aW hi') ?_;refine rh (fun _=>leaf (y:=fun s6 l=>next2 (wq ((i:Int)+1),s6,l,())) hs5 fun _ _=>rfl) fun _=>?_;refine ri hi' ?_;refine ra (show ins[(i:Int).toNat]?=some ins[i] by rw[e0]; exact aW hi') ?_;refine rh (fun _=>leaf (y:=fun s6 l=>next2 (wq ((i:Int)+1),s6,l,())) hs5 fun _ _=>rfl) fun _=>?_;exact rx (fun _=>leaf (y:=fun s6 l=>next2 (wq ((i:Int)+1),s6,l,())) hs5 fun _ _=>rfl) fun _=>hnext2 _ ⟨hs5,hl,hq⟩
  .rintro ⟨s3,ins,u3⟩ next2 ⟨hs3,hl,hq⟩;dsimp only at hs3 hl hq |-;refine rd (by omega) ?_;refine lenOk (by simp) (appOk (by simp) ?_);have hpo:∀(x:Int),∀ p∈([]++[((⟨#[99,107]⟩:ByteArray),(1:Int),(0:Int),()),((⟨#[97]⟩:ByteArray),(1:Int),(1:Int),()),((⟨#[98]⟩:ByteArray),(1:Int),(2:Int),())])++[((⟨#[121]⟩:ByteArray),(2:Int),x,())],p.1.size<100:=fun x p hp=>by simp only[List.nil_append,List.mem_append,List.mem_cons,List.not_mem_nil,or_false] at hp;rcases hp with (rfl | rfl | rfl) | rfl <;> (dsimp only; decide)
   refine Ret.bind (q12 hs3 2) ?_;rintro ⟨⟨a1,u7⟩,s5⟩ ⟨_,hs5⟩;dsimp only at hs5 |-;refine rh (fun _=>?_) fun _=>?_
   .refine Ret.bind (q12 hs5 _) ?_;rintro ⟨⟨a2,u8⟩,s6⟩ ⟨_,hs6⟩;dsimp only at hs6 |-;refine appOk (by simp) (rb ⟨⟨⟨by dsimp only; omega,hq⟩,⟨by dsimp only; omega,by dsimp only; omega,hnets⟩,⟨by simp,by simp,q377 (hpo _) (by show (ByteArray.mk #[122]).size<100; decide)⟩⟩,hs6⟩)
   .exact rb ⟨⟨⟨by dsimp only; omega,hq⟩,⟨by dsimp only; omega,by dsimp only; omega,hnets⟩,⟨by simp,by simp,hpo _⟩⟩,hs5⟩
end
section
variable {N:Nat} (hN:HN N) {u:Unit}
theorem q807{d:DDesign}(h:Few d)(k:Int):(sinksL d k).length<=78:=by rw[q472];unfold q228;exact Nat.le_trans List.countP_le_length (q132 h)
theorem q753{M:Type}{R:M->Prop}{n:Nat}{x:Option M}(h:n<4000000)(h1:Ret x R):Ret (bif (decide (0<=(n:Int)) && (decide ((n:Int)<=(lim:Int)) && decide ((n:Int)=(n:Int)))) then x else none) R:=
 rn ⟨by omega,by unfold lim; omega,rfl⟩ h1
def WirQ(w:DWire):Prop:=(1<=w.1.length/\w.1.length<=8)/\(1<=w.2.1.length/\w.2.1.length<=8)/\(1<=w.2.2.1.length/\w.2.2.1.length<=8)/\w.2.2.2.1.length<=200
theorem q343{w:DWire}(h:WirQ w):SmallW w:=⟨by have:=h.1.2; omega,by have:=h.2.1.2; omega,by have:=h.2.2.1.2; omega,by have:=h.2.2.2; omega⟩
theorem q504(l:List Int)(hl:l.length<4000000):F_15 N (l,u)=some (l,()):=by refine Ret.eq ?_;unfold F_15;dsimp only;exact lenOk (by simpa using hl) (rb (by simp))
include hN in
theorem q369{s:Src}(h:SrcP s){k:Nat}(hk:k<=100):Ret (F_16 N (s,(k:Int),u)) (fun r=>WirQ r.1.1/\SrcP r.2):=by
 unfold F_16;dsimp only;refine Ret.bind (q12 h 6) ?_;rintro ⟨⟨d1,u1⟩,s1⟩ ⟨_,hs1⟩;dsimp only at hs1 |-;refine Ret.bind (Q:=fun r=>r.1=([-1],[0],[d1],List.replicate k 0,())) ?_ ?_
 .unfold F_14;dsimp only;refine q753 (by omega) (rb ?_);simp
 rintro ⟨w,u2⟩ rfl;dsimp only;refine Ret.bind (q12 hs1 4) ?_;rintro ⟨⟨d3,u3⟩,s3⟩ ⟨hd3,hs3⟩;dsimp only at hd3 hs3 |-
 refine va (I:=fun(s:Int×Src×List Int×List Int×List Int×Unit×Unit)=>(0<=s.1/\s.1+s.2.2.1.length=1+d3)/\SrcP s.2.1/\1<=s.2.2.1.length/\s.2.2.2.1.length=s.2.2.1.length/\s.2.2.2.2.1.length=s.2.2.1.length) (T:=fun s=>s.1.toNat) ?_ N _
  ⟨⟨by dsimp only; omega,by simp; omega⟩,hs3,by simp,by simp,by simp⟩ (by dsimp only; omega)
 rintro ⟨n,s4,pa,re,ca,u4,u5⟩ next ⟨⟨hn0,hn1⟩,hs4,h1,h2,h3⟩ hnext
 dsimp only at hn0 hn1 hs4 h1 h2 h3 |-;refine rh (fun hn=>?_) fun hn=>?_
 .refine ra (q504 pa (by omega)) ?_;refine Ret.bind (q12 hs4 _) ?_;rintro ⟨⟨a1,u7⟩,s5⟩ ⟨_,hs5⟩;dsimp only at hs5 |-;refine appOk (by omega) (ra (q504 re (by omega)) ?_);refine Ret.bind (q12 hs5 _) ?_;rintro ⟨⟨a2,u8⟩,s6⟩ ⟨_,hs6⟩;dsimp only at hs6 |-;refine appOk (by omega) (ra (q504 ca (by omega)) ?_);refine Ret.bind (q12 hs6 _) ?_;rintro ⟨⟨a3,u9⟩,s7⟩ ⟨_,hs7⟩;dsimp only at hs7 |-;refine appOk (by omega) ?_;rw[wrapI (n:=n - 1) (by omega) (by omega)];exact hnext _ ⟨⟨by dsimp only; omega,by simp; omega⟩,hs7,by simp,by simpa using h2,by simpa using h3⟩ (by dsimp only; omega)
 .refine rq k (fun i (s:Src×List Int×Unit)=>SrcP s.1/\s.2.1.length=k) (by omega) (by omega) ⟨hs4,by simp⟩ ?_ ?_
  .rintro i ⟨s5,sk,u6⟩ next2 hi ⟨hs5,hl⟩ hnext2;dsimp only at hs5 hl hnext2 |-;refine rf (by omega) ?_;refine Ret.bind (q12 hs5 _) ?_;rintro ⟨⟨a1,u7⟩,s6⟩ ⟨_,hs6⟩;dsimp only at hs6 |-;refine ri (by omega) (rl (by omega) ?_);exact hnext2 _ ⟨hs6,by simpa using hl⟩
  .rintro ⟨s5,sk,u6⟩ next2 ⟨hs5,hl⟩;dsimp only at hs5 hl |-;exact rd (by omega) (rb ⟨⟨⟨h1,by dsimp only; omega⟩,⟨by dsimp only; omega,by dsimp only; omega⟩,⟨by dsimp only; omega,by dsimp only; omega⟩,by dsimp only; omega⟩,hs5⟩)
def BlkQ(b:DBlock):Prop:=SmallL b.1/\DesQ b.2.1/\(3<=b.2.2.1.length/\b.2.2.1.length<=20/\∀ w∈b.2.2.1,WirQ w)
theorem q489{b:DBlock}(h:BlkQ b):SmallB b:=⟨h.1,q334 h.2.1,by have:=h.2.2.2.1; omega,fun w hw=>q343 (h.2.2.2.2 w hw)⟩
include hN in
theorem q227{s:Src}(h:SrcP s){most:Int}(hm:2<=most/\most<=10)(wild:Bool):Ret (F_17 N (s,most,wild,u)) (fun r=>BlkQ r.1.1/\SrcP r.2):=by
 unfold F_17;dsimp only;refine Ret.bind (q551 hN h) ?_;rintro ⟨⟨l,u1⟩,s1⟩ ⟨hl,hs1⟩;dsimp only at hl hs1 |-;refine Ret.bind (q576 hN hs1 hm wild) ?_;rintro ⟨⟨d,u2⟩,s2⟩ ⟨hd,hs2⟩;dsimp only at hd hs2 |-;have hnl:=hd.2.1.2.1;have hn3:=hd.2.1.1;refine rq d.2.1.length (fun i (s:Src×List DWire×Unit)=>SrcP s.1/\s.2.1.length=i/\∀ w∈s.2.1,WirQ w) (by omega) (by omega) ⟨hs2,rfl,by simp⟩ ?_ ?_
 .rintro i ⟨s3,ws,u3⟩ next hi ⟨hs3,hwl,hws⟩ hnext
  dsimp only at hs3 hwl hws hnext |-;refine rf (by omega) ?_;refine ra (q308 hN (q707 hd) (i:Int)) ?_;dsimp only;refine Ret.bind (q369 hN hs3 (by have:=q807 (q707 hd) (i:Int); omega)) ?_;rintro ⟨⟨w,u4⟩,s4⟩ ⟨hw,hs4⟩;dsimp only at hw hs4 |-;exact appOk (by omega) (hnext _ ⟨hs4,by simp; omega,q377 hws hw⟩)
 .rintro ⟨s3,ws,u3⟩ next ⟨hs3,hwl,hws⟩
  dsimp only at hs3 hwl hws |-;exact rd (by omega) (rb ⟨⟨hl,hd,by dsimp only; omega,by dsimp only; omega,hws⟩,hs3⟩)
include hN in
theorem q441{s:Src}(h:SrcP s):Ret (F_18 N (s,u)) (fun r=>SmallB r.1.1/\SrcP r.2):=by
 unfold F_18;dsimp only;refine Ret.bind (q12 h 3) ?_;rintro ⟨⟨d1,u1⟩,s1⟩ ⟨_,hs1⟩;dsimp only at hs1 |-;refine Ret.bind (q227 hN hs1 (by omega) _) ?_;rintro ⟨⟨⟨l,d,ws,u9⟩,u2⟩,s2⟩ ⟨⟨hl,hd,hw3,hw20,hws⟩,hs2⟩;dsimp only at hl hd hw3 hw20 hws hs2 |-;refine Ret.bind (q12 hs2 _) ?_;rintro ⟨⟨k,u3⟩,s3⟩ ⟨hk,hs3⟩;dsimp only at hk hs3 |-;refine Ret.bind (q12 hs3 20) ?_;rintro ⟨⟨d4,u4⟩,s4⟩ ⟨_,hs4⟩;dsimp only at hs4 |-;have hkl:k.toNat<ws.length:=by omega
 have hkg:ws[k.toNat]?=some ws[k.toNat]:=aW hkl;have hwk:=hws _ (aR hkl);have mk:∀ ws2:List DWire,ws2.length<=20->(∀ w∈ws2,SmallW w)->SmallB (l,d,ws2,u9):=fun ws2 h1 h2=>⟨hl,q334 hd,by dsimp only; omega,h2⟩;have hsm:∀ w∈ws,SmallW w:=fun w hw=>q343 (hws w hw);generalize ws[k.toNat]=wk at hkg hwk;have hwks:=q343 hwk;refine rh (fun _=>?_) fun _=>rh (fun _=>?_) fun _=>rh (fun _=>?_) fun _=>rh (fun _=>?_) fun _=>rh (fun _=>?_) fun _=>rh (fun _=>?_) fun _=>?_
 .refine rr ⟨by omega,by omega,by omega⟩ (rb ⟨mk _ (by simp; omega) fun w hw=>hsm w (List.mem_of_mem_take (List.mem_of_mem_drop hw)),hs4⟩)
 .refine rt hk.1 (by omega) (ra hkg (ra hkg ?_));refine ra (q504 wk.2.2.2.1 (by have:=hwk.2.2.2; omega)) ?_;dsimp only;refine appOk (by have:=hwk.2.2.2; omega) ?_;refine rt hk.1 (by omega) (ra hkg (rb ⟨mk _ (by simpa using hw20) (q333 hsm ⟨hwks.1,hwks.2.1,hwks.2.2.1,by have:=hwk.2.2.2; simp; omega⟩),hs4⟩))
 .refine rt hk.1 (by omega) (ra hkg (ra hkg ?_));refine rt (by omega) (by have:=hwk.2.1.1; omega) (ra hkg (rl (show (0:Int).toNat<wk.2.1.length by have:=hwk.2.1.1; show 0<_; omega) ?_));exact rb ⟨mk _ (by simpa using hw20) (q333 hsm ⟨hwks.1,by simpa using hwks.2.1,hwks.2.2.1,hwks.2.2.2⟩),hs4⟩
 .refine rt hk.1 (by omega) (ra hkg ?_);refine Ret.bind (q12 hs4 3) ?_;rintro ⟨⟨d5,u5⟩,s5⟩ ⟨hd5,hs5⟩;dsimp only at hd5 hs5 |-;have h3:d5.toNat<[((-1):Int),(500:Int),(501:Int)].length:=by simp; omega
  refine rt hd5.1 (by simp; omega) (rl h3 (ra hkg ?_));refine rt (by omega) (by have:=hwk.2.2.1.1; omega) (ra hkg (rl (show (0:Int).toNat<wk.2.2.1.length by have:=hwk.2.2.1.1; show 0<_; omega) ?_));exact rb ⟨mk _ (by simpa using hw20) (q333 hsm ⟨hwks.1,hwks.2.1,by simpa using hwks.2.2.1,hwks.2.2.2⟩),hs5⟩
 .refine rt hk.1 (by omega) (ra hkg ?_);refine rt hk.1 (by omega) (ra hkg (ra hkg ?_));refine Ret.bind (q12 hs4 5) ?_;rintro ⟨⟨d5,u5⟩,s5⟩ ⟨hd5,hs5⟩;dsimp only at hd5 hs5 |-;refine ra hkg ?_;have h1:=hwk.1;rw[wrapI (n:=(wk.1.length:Int) - 1) (by omega) (by omega)];refine rt (by omega) (by omega) (ra hkg (rl (show ((wk.1.length:Int) - 1).toNat<wk.1.length by omega) ?_));exact rb ⟨mk _ (by simpa using hw20) (q333 hsm ⟨by simpa using hwks.1,hwks.2.1,hwks.2.2.1,hwks.2.2.2⟩),hs5⟩
 .have hp:=hd.2.2;refine rt (by omega) (by have:=hp.1; omega) (rl (show (0:Int).toNat<d.2.2.1.length by have:=hp.1; show 0<_; omega) ?_);have hds:=q334 hd;refine rb ⟨⟨hl,⟨hds.1,hds.2.1,by simpa using hds.2.2.1,q333 hds.2.2.2 ?_⟩,by dsimp only; omega,hsm⟩,hs4⟩;have h5:=hds.2.2.2 _ (aR (show (0:Int).toNat<d.2.2.1.length by have:=hp.1; show 0<_; omega));exact h5
 .exact rb ⟨mk _ hw20 hsm,hs4⟩
end
section
variable {N:Nat} (hN:HN N) {u:Unit}
theorem seedOk{seed e:Int}(h:0<=seed/\seed<2147483647)(he:BtwP 0 255 e):0<=(wq ((wq (seed * (31:Int)))+(wq e))).tmod (2147483647:Int)/\(wq ((wq (seed * (31:Int)))+(wq e))).tmod (2147483647:Int)<2147483647:=by unfold BtwP at he;rw[wrapI (n:=seed * 31) (by omega) (by omega),wrapI (n:=e) (by omega) (by omega),wrapI (n:=seed * 31+e) (by omega) (by omega)];exact tmodB (by omega) (by omega)
include hN in
theorem Ret.srcA{M:Type}{R:M->Prop}{code:List Int}(hl:code.length<4000000)(hc:∀ b∈code,BtwP 0 255 b){K:Int×Src×Unit->Option M}(hK:∀ s,SrcP s.2.1->Ret (K s) R):
 Ret (fixN N (fun(next:(Int×Src×Unit)->Option M)(s:Int×Src×Unit)=>(bif (decide (s.1<(code.length:Int))) then (bif (decide (s.1<(64:Int))) then obind (atI code s.1) fun e=>next ((wq (s.1+(1:Int))),(s.2.1.1,s.2.1.2.1,((wq ((wq (s.2.1.2.2.1 * (31:Int)))+(wq e))).tmod (2147483647:Int)),()),()) else K s) else K s)) ((0:Int),(code,(0:Int),(12345:Int),()),())) R:=by
 refine va (I:=fun(s:Int×Src×Unit)=>(0<=s.1/\s.1<=64)/\SrcP s.2.1) (T:=fun s=>(64 - s.1).toNat) ?_ N _
  ⟨⟨by dsimp only; omega,by dsimp only; omega⟩,⟨⟨by dsimp only; omega,hl⟩,⟨by dsimp only; omega,by dsimp only; omega⟩,hc⟩⟩ (by dsimp only; omega)
 rintro ⟨i,⟨cd,at0,seed,u1⟩,u2⟩ next ⟨⟨hi0,hi64⟩,hs⟩ hnext
 dsimp only at hi0 hi64 |-;refine rh (fun h1=>rh (fun h2=>?_) fun h2=>hK _ hs) fun h1=>hK _ hs;have hlt:i.toNat<code.length:=by omega
 refine vd hi0 hlt ?_;rw[wrapI (n:=i+1) (by omega) (by omega)];obtain ⟨g1,g2,g4⟩:=hs;exact hnext _ ⟨⟨by dsimp only; omega,by dsimp only; omega⟩,g1,seedOk g2 (hc _ (aR hlt)),g4⟩ (by dsimp only; omega)
include hN in
theorem Ret.srcB{M:Type}{R:M->Prop}{code:List Int}(hl:code.length<4000000)(hc:∀ b∈code,BtwP 0 255 b){K:Int×(Int×Int×Unit)×Unit->Option M}(hK:∀ s,SrcP (code,s.2.1)->Ret (K s) R):
 Ret (fixN N (fun(next:(Int×(Int×Int×Unit)×Unit)->Option M)(s:Int×(Int×Int×Unit)×Unit)=>(bif (decide (s.1<(code.length:Int))) then (bif (decide (s.1<(64:Int))) then (bif inI s.1 code.length then obind (code[s.1.toNat]?) fun e=>next ((wq (s.1+(1:Int))),(s.2.1.1,((wq ((wq (s.2.1.2.1 * (31:Int)))+(wq e))).tmod (2147483647:Int)),()),()) else none) else K s) else K s)) ((0:Int),((0:Int),(12345:Int),()),())) R:=by
 refine va (I:=fun(s:Int×(Int×Int×Unit)×Unit)=>(0<=s.1/\s.1<=64)/\SrcP (code,s.2.1)) (T:=fun s=>(64 - s.1).toNat) ?_ N _
  ⟨⟨by dsimp only; omega,by dsimp only; omega⟩,⟨⟨by dsimp only; omega,hl⟩,⟨by dsimp only; omega,by dsimp only; omega⟩,hc⟩⟩ (by dsimp only; omega)
 rintro ⟨i,⟨at0,seed,u1⟩,u2⟩ next ⟨⟨hi0,hi64⟩,hs⟩ hnext
 dsimp only at hi0 hi64 |-;refine rh (fun h1=>rh (fun h2=>?_) fun h2=>hK _ hs) fun h1=>hK _ hs;have hlt:i.toNat<code.length:=by omega
 refine rt hi0 (by omega) (rl hlt ?_);rw[wrapI (n:=i+1) (by omega) (by omega)];obtain ⟨g1,g2,g4⟩:=hs;exact hnext _ ⟨⟨by dsimp only; omega,by dsimp only; omega⟩,g1,seedOk g2 (hc _ (aR hlt)),g4⟩ (by dsimp only; omega)
include hN in
theorem q625{s:Src}(h:SrcP s):Ret (F_19 N (s,u)) (fun r=>SmallB r.1.1/\SrcP r.2):=by
 unfold F_19;dsimp only;refine Ret.bind (q12 h 14) ?_;rintro ⟨⟨d1,u1⟩,s1⟩ ⟨_,hs1⟩;dsimp only at hs1 |-;refine rh (fun _=>?_) fun _=>rh (fun _=>?_) fun _=>?_
 .refine Ret.bind (q441 hN hs1) ?_;rintro ⟨⟨b,u2⟩,s2⟩ hb;exact rb hb
 .refine Ret.bind (q227 hN hs1 (by omega) _) ?_;rintro ⟨⟨b,u2⟩,s2⟩ ⟨hb,hs2⟩;exact rb ⟨q489 hb,hs2⟩
 .refine Ret.bind (q12 hs1 8) ?_;rintro ⟨⟨d4,u4⟩,s4⟩ ⟨hd4,hs4⟩;dsimp only at hd4 hs4 |-;rw[wrapI (n:=2+d4) (by omega) (by omega)];refine Ret.bind (q227 hN hs4 (by omega) _) ?_;rintro ⟨⟨b,u5⟩,s5⟩ ⟨hb,hs5⟩;exact rb ⟨q489 hb,hs5⟩
theorem q413{s:Src}(h:SrcP s)(b:DBlock):Ret (F_20 N (s,b,u)) (fun r=>SrcP r.2):=by
 unfold F_20;dsimp only;refine Ret.bind (q12 h 16) ?_;rintro ⟨⟨d1,u1⟩,s1⟩ ⟨_,hs1⟩;dsimp only at hs1 |-;refine rh (fun _=>?_) fun _=>?_
 .refine Ret.bind (q12 hs1 2) ?_;rintro ⟨⟨d2,u2⟩,s2⟩ ⟨hd2,hs2⟩;dsimp only at hd2 hs2 |-;refine rt hd2.1 (by simp; omega) (rl (by simp; omega) (rb hs2))
 .refine Ret.bind (q12 hs1 _) ?_;rintro ⟨⟨d2,u2⟩,s2⟩ ⟨_,hs2⟩;exact rb hs2
include hN in
theorem q403{code:List Int}(hl:code.length<=5000)(hc:∀ b∈code,BtwP 0 255 b):Ret (F_21 N (code,u)) (fun r=>SmallB r.1):=by unfold F_21;dsimp only;refine Ret.srcA hN (by omega) hc fun s hs=>?_;refine Ret.bind (q625 hN (u:=s.2.2) hs) ?_;rintro ⟨⟨b,u3⟩,s3⟩ ⟨hb,hs3⟩;dsimp only at hb hs3 |-;refine rh (fun _=>rb hb) fun _=>?_;refine Ret.bind (q413 hs3 b) ?_;rintro ⟨r,s4⟩ _;exact rb hb
theorem q751{b:DBlock}(hb:SmallB b):(srcAns b).1.length<4000000:=by
 rcases q348 b with ⟨hB,_,e⟩ | ⟨_,_,e⟩ | ⟨_,e⟩ <;> rw[e]
 .have h1:=q185 b b.2.1.2.1.length;have h2:=(q20 hB).2;show (srcOf b).length<_;unfold srcOf;omega
 .simp
 .simp
theorem q817{k:Int}(hk:BtwP 0 255 k){code:List Int}(hc:∀ b∈code,BtwP 0 255 b):∀ b∈[k]++code,BtwP 0 255 b:=fun b hb=>by
 rcases List.mem_append.1 hb with h | h
 .simp only[List.mem_cons,List.not_mem_nil,or_false] at h;subst h; exact hk
 .exact hc b h
end
section
variable {N:Nat} (hM:1000000000000<=N) {u:Unit}
include hM
theorem q367{s:Src}(h:SrcP s){b:DBlock}(hb:SmallB b):Ret (F_50 N (s,b,u)) (fun r=>r.1.1.length<4000000):=by
 have hN:4000000<=N:=by omega
 unfold F_50;dsimp only;refine ra (q436 hN hb _) ?_;have hsl:=q751 hb;generalize srcAns b=sa at hsl;obtain ⟨sl,sc,u2⟩:=sa;dsimp only at hsl |-
 refine va (I:=fun(s:Int×Src×List AT×Unit)=>∃ i:Nat,s.1=(i:Int)/\i<=sl.length/\s.2.2.1.length=i/\SrcP s.2.1) (T:=fun s=>sl.length - s.1.toNat) ?_ N _
  ⟨0,rfl,by omega,rfl,h⟩ (by dsimp only; omega)
 rintro ⟨i0,s1,l,u1⟩ next ⟨i,e1,hi,e2,hs⟩ hnext
 dsimp only at e1 e2 hs;subst e1;dsimp only
 have fin:∀ s1:Src,SrcP s1->Ret (bif (decide ((l.length:Int)=(0:Int))) then some ((l,u1),s1) else
  obind (F_1 N (s1,(16:Int),())) fun r16=>(bif (!decide (r16.1.1=(0:Int))) then some ((l,u1),r16.2) else
  obind (F_1 N (r16.2,(4:Int),())) fun r17=>(bif (decide (r17.1.1=(0:Int))) then
   (bif ((decide (0<=(1:Int)) && decide ((1:Int)<=(l.length:Int))) && decide ((l.length:Int)<=(l.length:Int))) then some ((((l.take (l.length:Int).toNat).drop (1:Int).toNat),()),r17.2) else none)
  else (bif (decide (r17.1.1=(1:Int))) then (bif inI (0:Int) l.length then obind (l[(0:Int).toNat]?) fun e18=>some (((l.set ((0:Int).toNat) (((2:Int),(4:Int),()),e18.2)),()),r17.2) else none)
  else (bif (decide (r17.1.1=(2:Int))) then (bif inI (0:Int) l.length then obind (l[(0:Int).toNat]?) fun e19=>some (((l.set ((0:Int).toNat) (((1:Int),(11:Int),()),e19.2)),()),r17.2) else none)
  else obind (F_1 N (r17.2,(2:Int),())) fun r20=>(bif inI (0:Int) l.length then obind (l[(0:Int).toNat]?) fun e21=>some (((l.set ((0:Int).toNat) (e21.1,(wq ((wq ((1002:Int) * r20.1.1)) - (1:Int))),())),()),r20.2) else none)))))) (fun r=>r.1.1.length<4000000):=by
  intro s1 hs;refine rh (fun _=>rb (by dsimp only; omega)) fun h0=>?_;have hl0:0<l.length:=by omega
  refine Ret.bind (q12 hs 16) ?_;rintro ⟨⟨d1,u3⟩,s3⟩ ⟨_,hs3⟩;dsimp only at hs3 |-;refine rm (fun _=>rb (by dsimp only; omega)) fun _=>?_;refine Ret.bind (q12 hs3 4) ?_;rintro ⟨⟨d2,u4⟩,s4⟩ ⟨_,hs4⟩;dsimp only at hs4 |-;refine rh (fun _=>?_) fun _=>rh (fun _=>?_) fun _=>rh (fun _=>?_) fun _=>?_
  .rw[show (decide (0<=(1:Int)) && decide ((1:Int)<=(l.length:Int)) && decide ((l.length:Int)<=(l.length:Int)))=true by simp; omega];exact rb (by simp; omega)
  .exact rt (by omega) (by omega) (rl (show (0:Int).toNat<l.length by simpa using hl0) (rb (by simp; omega)))
  .exact rt (by omega) (by omega) (rl (show (0:Int).toNat<l.length by simpa using hl0) (rb (by simp; omega)))
  .refine Ret.bind (q12 hs4 2) ?_;rintro ⟨⟨d3,u5⟩,s5⟩ ⟨_,hs5⟩;dsimp only at hs5 |-;exact rt (by omega) (by omega) (rl (show (0:Int).toNat<l.length by simpa using hl0) (rb (by simp; omega)))
 refine rh (fun hlt=>rh (fun h0=>?_) fun h0=>?_) fun hlt=>?_
 .refine Ret.bind (q12 hs 6) ?_;rintro ⟨⟨d1,u3⟩,s3⟩ ⟨hd1,hs3⟩;dsimp only at hd1 hs3 |-;rw[wrapI (n:=1+d1) (by omega) (by omega),wrapI (n:=1+d1+1) (by omega) (by omega)];refine Ret.bind (q12 hs3 _) ?_;rintro ⟨⟨d2,u4⟩,s4⟩ ⟨hd2,hs4⟩;dsimp only at hd2 hs4 |-;refine ra (q395 hM (by omega) (by omega) _) ?_;refine Ret.bind (q12 hs4 2) ?_;rintro ⟨⟨d3,u5⟩,s5⟩ ⟨_,hs5⟩;dsimp only at hs5 |-;rw[wrapI (n:=(i:Int)+1) (by omega) (by omega)];refine rh (fun _=>?_) fun _=>?_
  .refine Ret.bind (q12 hs5 60) ?_;rintro ⟨⟨d4,u6⟩,s6⟩ ⟨_,hs6⟩;exact appOk (by omega) (hnext _ ⟨i+1,by simp,by omega,by simp[e2],hs6⟩ (by dsimp only; omega))
  .refine Ret.bind (q12 hs5 60) ?_;rintro ⟨⟨d4,u6⟩,s6⟩ ⟨_,hs6⟩;exact appOk (by omega) (hnext _ ⟨i+1,by simp,by omega,by simp[e2],hs6⟩ (by dsimp only; omega))
 .exact fin s1 hs
 .exact fin s1 hs
theorem q417{code:List Int}(hl:code.length<=4096)(hc:∀ b∈code,BtwP 0 255 b):Ret (F_51 N (code,u)) (fun r=>SmallB r.1/\r.2.1.length<4000000):=by
 have hN:4000000<=N:=by omega
 unfold F_51;refine Ret.bind (q403 (u:=u) hN (by omega) hc) ?_;rintro ⟨b,net,u1⟩ hb;dsimp only at hb |-;refine lenOk (by simp; omega) (Ret.srcB hN (by simp; omega) (q817 ⟨by decide,by decide⟩ hc) fun s hs=>?_);refine Ret.bind (q367 hM hs hb) ?_;rintro ⟨⟨l,u3⟩,s3⟩ hl2;exact rb ⟨hb,hl2⟩
end
theorem q879{n:Int}(h:(Lit.int .u8 n).wf=true):BtwP 0 255 n:=by have h1:IntKind.u8.min=0:=rfl;have h2:IntKind.u8.max=255:=rfl;simp[Lit.wf,h1,h2] at h;unfold BtwP;omega
theorem q681{b:DBlock}{src src':Nat->Int}:∀(m k:Nat),(∀ s,SupP b k s->src s=src' s)->valN b src m k=valN b src' m k
 | 0,_,_=>rfl
 | m+1,k,h=>by
  unfold valN;by_cases hg:gateOf b k<0
  .rw[if_pos hg,if_pos hg];exact h k ⟨hg,.refl k⟩
  .rw[if_neg hg,if_neg hg,q250 (fun i hi=>?_) _ (Nat.le_refl _)];exact q681 m _ fun s hs=>h s ⟨hs.1,.step (by omega) hi hs.2⟩
theorem q543{b:DBlock}{src src':Nat->Int}{k:Nat}(h:∀ s,SupP b k s->src s=src' s):val b src k=val b src' k:=q681 31 k h
def updS(src:Nat->Int)(x v:Int):Nat->Int:=fun k=>if (k:Int)=x then v else src k
def exA(A:Int->AT)(G:(Nat->Int)->Int):List Int->(Nat->Int)->Int
 | [],src=>G src
 | x :: xs,src=>exA A G xs (updS src x 0) * fac (A x) false+exA A G xs (updS src x 1) * fac (A x) true
def rowS:List Int->(Nat->Int)->Nat->Nat->Int
 | [],src,_=>src
 | x :: xs,src,i=>rowS xs (updS src x ((i / 2 ^ xs.length % 2:Nat):Int)) i
def denL(A:Int->AT):List Int->Int
 | []=>1
 | x :: xs=>denL A xs * (A x).1.2.1
theorem q800{A:Int->AT}{sup:List Int}{skip:Int}{i j:Nat}:∀ p,(∀ q,q<p->i / 2 ^ q % 2=j / 2 ^ q % 2)->wtP A sup i skip p=wtP A sup j skip p
 | 0,_=>rfl
 | p+1,h=>by unfold wtP; rw[q800 p fun q hq=>h q (by omega),h p (by omega)]
theorem q712{i j:Nat}:∀(xs:List Int)(src:Nat->Int),(∀ q,q<xs.length->i / 2 ^ q % 2=j / 2 ^ q % 2)->rowS xs src i=rowS xs src j
 | [],_,_=>rfl
 | x :: xs,src,h=>by unfold rowS;rw[h xs.length (by simp),q712 xs _ fun q hq=>h q (by simp; omega)]
theorem q760(A:Int->AT)(sup ys:List Int)(i:Nat)(skip:Int):∀ p,p<=sup.length->wtP A (sup++ys) i skip p=wtP A sup i skip p
 | 0,_=>rfl
 | p+1,h=>by unfold wtP;rw[q760 A sup ys i skip p (by omega),aH (by omega)]
theorem q774(A:Int->AT)(sup ys:List Int)(skip:Int):∀ p,p<=sup.length->dnP A (sup++ys) skip p=dnP A sup skip p
 | 0,_=>rfl
 | p+1,h=>by unfold dnP;rw[q774 A sup ys skip p (by omega),aH (by omega)]
theorem q660(A:Int->AT):∀ xs:List Int,dnP A xs.reverse (-1) xs.length=denL A xs
 | []=>rfl
 | x :: xs=>by have e:(x :: xs).length=xs.length+1:=rfl;rw[List.reverse_cons,e];unfold dnP denL;rw[if_neg (by omega),q774 A _ _ _ _ (by simp),q660 A xs,List.getElem?_append_right (by simp)];simp
theorem q390{n j:Nat}(hj:j<2 ^ n):(2 ^ n+j) / 2 ^ n % 2=1/\j / 2 ^ n % 2=0/\∀ q,q<n->(2 ^ n+j) / 2 ^ q % 2=j / 2 ^ q % 2:=by
 have hp:0<2 ^ n:=Nat.pow_pos (by omega);refine ⟨?_,?_,fun q hq=>?_⟩
 .rw[Nat.add_comm,Nat.add_div_right _ hp,Nat.div_eq_of_lt hj]
 .rw[Nat.div_eq_of_lt hj]
 .have e2:2 ^ n=2 ^ q * (2 * 2 ^ (n - q - 1)):=by rw[<- Nat.pow_succ',<- Nat.pow_add]; congr 1; omega
  rw[Nat.add_comm,e2,Nat.add_mul_div_left _ _ (Nat.pow_pos (by omega))];omega
theorem q629(A:Int->AT)(G:(Nat->Int)->Int):∀(xs:List Int)(src:Nat->Int),sumF (fun i=>G (rowS xs src i) * wtP A xs.reverse i (-1) xs.length) (2 ^ xs.length)=exA A G xs src
 | [],src=>by show sumF _ 1=_;simp[sumF,rowS,wtP,exA]
 | x :: xs,src=>by
  have e:(x :: xs).length=xs.length+1:=rfl;rw[e,Nat.pow_succ,Nat.mul_two,q259];unfold exA;rw[<- q629 A G xs (updS src x 0),<- q629 A G xs (updS src x 1),Int.mul_comm _ (fac (A x) false),Int.mul_comm _ (fac (A x) true),<- q120,<- q120];have hw:∀ i bit,i / 2 ^ xs.length % 2=bit->wtP A (x :: xs).reverse i (-1) (xs.length+1)=wtP A xs.reverse i (-1) xs.length * fac (A x) (decide (bit=1)):=fun i bit hb=>by
   rw[List.reverse_cons]
   conv=>lhs; unfold wtP
   rw[if_neg (by omega),q760 A _ _ _ _ _ (by simp),List.getElem?_append_right (by simp),hb];simp
  congr 1
  .refine q51 _ fun i hi=>?_;have hb:=(q390 hi).2.1;rw[hw i 0 hb]
   conv=>lhs; unfold rowS
   rw[hb];simp only[decide_eq_false (show ¬ (0=1) by decide)];show G (rowS xs (updS src x 0) i) * _=_;rw[<- Int.mul_assoc,Int.mul_comm]
  .refine q51 _ fun i hi=>?_;obtain ⟨hb,_,hl⟩:=q390 hi;rw[hw _ 1 hb,q800 xs.length hl]
   conv=>lhs; unfold rowS
   rw[hb,q712 xs _ hl];simp only[decide_true];show G (rowS xs (updS src x 1) i) * _=_;rw[<- Int.mul_assoc,Int.mul_comm]
theorem q312{A:Int->AT}{G:(Nat->Int)->Int}{D:Nat->Prop}(hG:∀ s t:Nat->Int,(∀ k,D k->s k=t k)->G s=G t):∀(xs:List Int)(s t:Nat->Int),(∀ k,D k->s k=t k)->exA A G xs s=exA A G xs t
 | [],s,t,h=>hG s t h
 | x :: xs,s,t,h=>by
  unfold exA;have hu:∀ v k,D k->updS s x v k=updS t x v k:=fun v k hk=>by
   unfold updS;split
   .rfl
   .exact h k hk
  rw[q312 hG xs _ _ (hu 0),q312 hG xs _ _ (hu 1)]
theorem q451(a:AT):fac a false+fac a true=a.1.2.1:=by unfold fac; simp
theorem q42(A:Int->AT)(G:(Nat->Int)->Int)(x:Int)(xs:List Int)(src:Nat->Int):exA A G (x :: xs) src=exA A G xs (updS src x 0) * fac (A x) false+exA A G xs (updS src x 1) * fac (A x) true:=rfl
theorem q89(A:Int->AT)(x:Int)(xs:List Int):denL A (x :: xs)=denL A xs * (A x).1.2.1:=rfl
theorem q723{A:Int->AT}{G:(Nat->Int)->Int}{D:Nat->Prop}(hG:∀ s t:Nat->Int,(∀ k,D k->s k=t k)->G s=G t)(q:Int->Bool):∀(xs:List Int),(∀ x∈xs,q x=false->∀ k,D k->(k:Int)≠x)->∀ src:Nat->Int,
 exA A G xs src=denL A (xs.filter fun x=>!q x) * exA A G (xs.filter q) src/\denL A xs=denL A (xs.filter fun x=>!q x) * denL A (xs.filter q)
 | [],_,src=>by simp[exA,denL]
 | x :: xs,h,src=>by
  have ih:=q723 (A:=A) hG q xs fun y hy=>h y (by simp[hy]);cases hq:q x with
  | true=>
   rw[List.filter_cons_of_neg (by simp[hq]),List.filter_cons_of_pos hq];rw[q42,q42,q89,q89,(ih (updS src x 0)).1,(ih (updS src x 1)).1,(ih src).2];refine ⟨?_,?_⟩
   .rw[Int.mul_add,Int.mul_assoc,Int.mul_assoc]
   .rw[Int.mul_assoc]
  | false=>
   rw[List.filter_cons_of_pos (by simp[hq]),List.filter_cons_of_neg (by simp[hq])];have hu:∀ v,exA A G xs (updS src x v)=exA A G xs src:=fun v=>q312 hG xs _ _ fun k hk=>by unfold updS;rw[if_neg (h x (by simp) hq k hk)]
   rw[q42,q89,q89,hu,hu,<- Int.mul_add,q451,(ih src).1,(ih src).2];constructor <;> simp only[Int.mul_assoc,Int.mul_comm,Int.mul_left_comm]
theorem q539{i:Nat}{k:Nat}:∀(xs:List Int)(src:Nat->Int),(k:Int)∉xs->rowS xs src i k=src k
 | [],_,_=>rfl
 | x :: xs,src,h=>by show rowS xs (updS src x _) i k=_;rw[q539 xs _ fun hm=>h (by simp[hm])];unfold updS;rw[if_neg fun e=>h (by simp[e])]
theorem q818{i:Nat}{k:Nat}:∀(xs:List Int)(src:Nat->Int),xs.Nodup->∀ p (hp:p<xs.reverse.length),xs.reverse[p]=(k:Int)->rowS xs src i k=((i / 2 ^ p % 2:Nat):Int)
 | [],_,_,p,hp,_=>absurd hp (by simp)
 | x :: xs,src,hn,p,hp,he=>by
  show rowS xs (updS src x _) i k=_;have hn':=List.nodup_cons.1 hn;by_cases h:p<xs.reverse.length
  .refine q818 xs _ hn'.2 p h ?_;rw[<- he];simp only[List.reverse_cons];rw[List.getElem_append_left h]
  .have hpe:p=xs.length:=by simp at hp h; omega
   subst hpe;have hx:x=(k:Int):=by rw[<- he];simp only[List.reverse_cons];rw[List.getElem_append_right (by simp)];simp
   rw[q539 xs _ (by rw[<- hx]; exact hn'.1)];unfold updS;rw[if_pos hx.symm]
theorem q425(f:List Int)(w:Nat->Int):∀ n,sumW f w n=sumF (fun i=>f[i]?.getD 0 * w i) n
 | 0=>rfl
 | n+1=>by unfold sumW sumF; rw[q425 f w n]
theorem q533{b:DBlock}{sup:List Int}(hn:sup.Nodup)(A:Int->AT)(k:Nat):
 sumW (funL b sup k) (fun i=>wtP A sup i (-1) sup.length) (2 ^ sup.length)=exA A (fun src=>val b src k) sup.reverse (fun _=>0):=by
 rw[q425,<- q629,List.reverse_reverse,List.length_reverse];refine q51 _ fun i hi=>?_;congr 1;rw[get0 (by rw[q512]; exact hi)];unfold funL;rw[List.getElem_map,List.getElem_range];refine q543 fun s _=>?_;by_cases hm:(s:Int)∈sup
 .obtain ⟨p,hp,e⟩:=List.getElem_of_mem hm;rw[q435 hn hp (by rw[q246]; exact hp) e,q484,q818 sup.reverse _ (by rw[List.Nodup,List.pairwise_reverse]; exact hn.imp fun h=>Ne.symm h) p (by simpa using hp) (by simpa using e)]
 .rw[q462 hm,q539 _ _ (by simpa using hm)]
theorem q762{b:DBlock}{l:List AT}{k:Nat}{U:List Int}(hS:Sup b U)(hf:U.filter (fun x=>decide (x∈supL b k))=supL b k)(hA:OkA (pickA (srcOf b) l) U)(hB:Bits01 (funL b (supL b k) k)):
 redF (sumW (funL b U k) (fun i=>wtP (pickA (srcOf b) l) U i (-1) U.length) (2 ^ U.length)) (dnP (pickA (srcOf b) l) U (-1) U.length)=probR b l k:=by
 have hs:=(q382 b k).nodup;have hU:=hS.nodup;unfold probR;have hden:∀ sup:List Int,dnP (pickA (srcOf b) l) sup (-1) sup.length=denL (pickA (srcOf b) l) sup.reverse:=fun sup=>by rw[<- q660,List.reverse_reverse,List.length_reverse]
 have hG:∀ s t:Nat->Int,(∀ j,SupP b k j->s j=t j)->(fun src=>val b src k) s=(fun src=>val b src k) t:=fun s t h=>q543 h;have hd:=q723 (A:=pickA (srcOf b) l) hG (fun x=>decide (x∈supL b k)) U.reverse (fun x hx hq j hj he=>by
  simp only[decide_eq_false_iff_not] at hq;apply hq;obtain ⟨s,h1,h2,h3⟩:=hS.src x (by simpa using hx);have:s=j:=by omega
  subst this;exact q123.2 ⟨s,h2,hj,h1⟩) (fun _=>0)
 rw[q533 hU,q533 hs,hden,hden,hd.1,hd.2,List.filter_reverse,List.filter_reverse,hf];have hpos:∀ xs:List Int,(∀ x∈xs,x∈U)->1<=denL (pickA (srcOf b) l) xs:=fun xs=>by
  induction xs with
  | nil=>intro _; exact Int.le_refl _
  | cons x xs ih=>
   intro h;rw[q89];have h1:=ih fun y hy=>h y (by simp[hy]);have h2:=(hA x (h x (by simp))).2.1.1;exact Int.le_trans (show (1:Int)<=1 * 1 by omega) (Int.mul_le_mul h1 h2 (by omega) (by omega))
 have hsub:∀ x∈(supL b k),x∈U:=fun x hx=>by rw[<- hf] at hx; exact (List.mem_filter.1 hx).1
 refine q432 ?_ ?_ (hpos _ fun x hx=>?_)
 .rw[<- q533 hs];have hok:OkA (pickA (srcOf b) l) (supL b k):=fun x hx=>hA x (hsub x hx);have h10:(0:Int)<10 ^ (supL b k).length:=Int.pow_pos (by omega);exact (q110 hB (Int.le_of_lt h10) (fun i=>q140 hok i (-1) _ (Nat.le_refl _)) _).1
 .exact Int.le_trans (by omega) (hpos _ fun x hx=>hsub x (by simpa using hx))
 .simp at hx; exact hx.1
def Bit(s:Nat->Int):Prop:=∀ k,s k=0\/s k=1
theorem q670{s:Nat->Int}(h:Bit s)(x:Int){v:Int}(hv:v=0\/v=1):Bit (updS s x v):=fun k=>by
 unfold updS;split
 .exact hv
 .exact h k
def FacP(A:Int->AT)(xs:List Int):Prop:=∀ x∈xs,0<=fac (A x) false/\0<=fac (A x) true
theorem q719{A:Int->AT}{F G:(Nat->Int)->Int}(hg:∀ s,Bit s->F s<=G s):∀ xs,FacP A xs->∀ s,Bit s->exA A F xs s<=exA A G xs s
 | [],_,s,hs=>hg s hs
 | x :: xs,hf,s,hs=>by rw[q42,q42];have h:=fun v hv=>q719 hg xs (fun y hy=>hf y (by simp[hy])) (updS s x v) (q670 hs x hv);have h0:=Int.mul_le_mul_of_nonneg_right (h 0 (.inl rfl)) (hf x (by simp)).1;have h1:=Int.mul_le_mul_of_nonneg_right (h 1 (.inr rfl)) (hf x (by simp)).2;omega
theorem q634{A:Int->AT}{F G:(Nat->Int)->Int}(hg:∀ s,Bit s->F s=G s):∀ xs s,Bit s->exA A F xs s=exA A G xs s
 | [],s,hs=>hg s hs
 | x :: xs,s,hs=>by rw[q42,q42,q634 hg xs _ (q670 hs x (.inl rfl)),q634 hg xs _ (q670 hs x (.inr rfl))]
theorem q522(A:Int->AT)(F G:(Nat->Int)->Int):∀ xs s,exA A (fun s=>F s+G s) xs s=exA A F xs s+exA A G xs s
 | [],s=>rfl
 | x :: xs,s=>by rw[q42,q42,q42,q522 A F G xs,q522 A F G xs,Int.add_mul,Int.add_mul];omega
theorem q497(A:Int->AT)(c:Int)(F:(Nat->Int)->Int):∀ xs s,exA A (fun s=>c * F s) xs s=c * exA A F xs s
 | [],s=>rfl
 | x :: xs,s=>by rw[q42,q42,q497 A c F xs,q497 A c F xs,Int.mul_assoc,Int.mul_assoc,<- Int.mul_add]
theorem q298(A:Int->AT){F:(Nat->Int)->Int}:∀ xs s,(∀ t:Nat->Int,(∀ k:Nat,(k:Int)∉xs->t k=s k)->F t=F s)->exA A F xs s=F s * denL A xs
 | [],s,_=>by simp[exA,denL]
 | x :: xs,s,h=>by
  have hu:∀ v,exA A F xs (updS s x v)=F s * denL A xs:=fun v=>by
   have e:F (updS s x v)=F s:=h _ fun k hk=>by unfold updS;rw[if_neg fun e=>hk (by simp[e])]
   rw[q298 A xs (updS s x v) fun t ht=>by rw[e];refine h t fun k hk=>?_;rw[ht k fun hm=>hk (by simp[hm])];unfold updS;rw[if_neg fun e=>hk (by simp[e])],e]
  rw[q42,q89,hu,hu,<- Int.mul_add,q451,Int.mul_assoc]
theorem q877(A:Int->AT)(xs:List Int)(s:Nat->Int):exA A (fun _=>1) xs s=denL A xs:=by rw[q298 A xs s fun _ _=>rfl,Int.one_mul]
theorem q535(A:Int->AT)(F:Nat->(Nat->Int)->Int)(xs:List Int)(s:Nat->Int):∀ n,exA A (fun s=>sumF (fun i=>F i s) n) xs s=sumF (fun i=>exA A (F i) xs s) n
 | 0=>by show exA A (fun _=>0) xs s=0;rw[q298 A xs s fun _ _=>rfl,Int.zero_mul]
 | n+1=>by show exA A (fun s=>sumF (fun i=>F i s) n+F n s) xs s=_;rw[q522,q535 A F xs s n]; rfl
theorem q780{A:Int->AT}{G:(Nat->Int)->Int}{D:Nat->Prop}(hG:∀ s t:Nat->Int,(∀ k,D k->s k=t k)->G s=G t){x:Int}(hx:∀ k,D k->(k:Int)≠x)(xs:List Int)(s:Nat->Int)(v:Int):exA A G xs (updS s x v)=exA A G xs s:=
 q312 hG xs _ _ fun k hk=>by unfold updS;rw[if_neg (hx k hk)]
theorem q695{A:Int->AT}{F G:(Nat->Int)->Int}{D E:Nat->Prop}(hF:∀ s t:Nat->Int,(∀ k,D k->s k=t k)->F s=F t)(hG:∀ s t:Nat->Int,(∀ k,E k->s k=t k)->G s=G t)(hd:∀ k,D k->¬ E k):∀ xs s,
 exA A (fun s=>F s * G s) xs s * denL A xs=exA A F xs s * exA A G xs s
 | [],s=>by simp[exA,denL]
 | x :: xs,s=>by
  have ih:=fun s=>q695 (A:=A) hF hG hd xs s;by_cases hx:∃ k:Nat,D k/\(k:Int)=x
  .obtain ⟨k0,hk0,hkx⟩:=hx;have hE:∀ k,E k->(k:Int)≠x:=fun k hk e=>hd k (by rw[show k=k0 by omega]; exact hk0) hk;have hu:=fun v=>q780 (A:=A) hG hE xs s v;have i0:=ih (updS s x 0);have i1:=ih (updS s x 1);rw[hu] at i0 i1;rw[q42,q42 A F,q42 A G,q89,hu,hu,<- Int.mul_add,q451];generalize exA A (fun s=>F s * G s) xs (updS s x 0)=p0 at *;generalize exA A (fun s=>F s * G s) xs (updS s x 1)=p1 at *;generalize exA A F xs (updS s x 0)=f0 at *;generalize exA A F xs (updS s x 1)=f1 at *;generalize exA A G xs s=g at *;generalize denL A xs=d at *;rw[show (p0 * fac (A x) false+p1 * fac (A x) true) * (d * (A x).1.2.1)=(p0 * d * fac (A x) false+p1 * d * fac (A x) true) * (A x).1.2.1 by simp only[Int.mul_add,Int.add_mul,Int.mul_assoc,Int.mul_comm,Int.mul_left_comm],i0,i1];simp only[Int.mul_add,Int.add_mul,Int.mul_assoc,Int.mul_comm,Int.mul_left_comm]
  .have hD:∀ k,D k->(k:Int)≠x:=fun k hk e=>hx ⟨k,hk,e⟩;have hu:=fun v=>q780 (A:=A) hF hD xs s v;have i0:=ih (updS s x 0);have i1:=ih (updS s x 1);rw[hu] at i0 i1;rw[q42,q42 A F,q42 A G,q89,hu,hu,<- Int.mul_add,q451];generalize exA A (fun s=>F s * G s) xs (updS s x 0)=p0 at *;generalize exA A (fun s=>F s * G s) xs (updS s x 1)=p1 at *;generalize exA A G xs (updS s x 0)=g0 at *;generalize exA A G xs (updS s x 1)=g1 at *;generalize exA A F xs s=f at *;generalize denL A xs=d at *;rw[show (p0 * fac (A x) false+p1 * fac (A x) true) * (d * (A x).1.2.1)=(p0 * d * fac (A x) false+p1 * d * fac (A x) true) * (A x).1.2.1 by simp only[Int.mul_add,Int.add_mul,Int.mul_assoc,Int.mul_comm,Int.mul_left_comm],i0,i1];simp only[Int.mul_add,Int.add_mul,Int.mul_assoc,Int.mul_comm,Int.mul_left_comm]
theorem q640{A:Int->AT}{k:Nat}:∀ xs (s:Nat->Int),xs.Nodup->(k:Int)∈xs->exA A (fun s=>s k) xs s * (A (k:Int)).1.2.1=(A (k:Int)).1.1 * denL A xs
 | [],_,_,h=>absurd h (by simp)
 | x :: xs,s,hn,h=>by
  have hn':=List.nodup_cons.1 hn;rw[q42,q89];by_cases hx:(k:Int)=x
  .subst hx;have hu:∀ v,exA A (fun s=>s k) xs (updS s (k:Int) v)=v * denL A xs:=fun v=>by rw[q298 A xs _ fun t ht=>ht k hn'.1];unfold updS;rw[if_pos rfl]
   rw[hu,hu,Int.zero_mul,Int.zero_mul,Int.one_mul,Int.zero_add];simp only[fac,if_true,Int.mul_assoc,Int.mul_comm,Int.mul_left_comm]
  .have hm:(k:Int)∈xs:=by
    rcases List.mem_cons.1 h with h | h
    .exact absurd h hx
    .exact h
   have i:=fun v=>q640 (A:=A) xs (updS s x v) hn'.2 hm;rw[Int.add_mul,Int.mul_right_comm,Int.mul_right_comm _ (fac (A x) true),i,i,<- Int.mul_add,q451,Int.mul_assoc]
def fctP(V:Nat->Int)(r p:Nat):Int:=if r / 2 ^ p % 2=1 then V p else 1 - V p
def indP(V:Nat->Int)(r:Nat):Nat->Int
 | 0=>1
 | p+1=>indP V r p * fctP V r p
theorem q694{V:Nat->Int}{p:Nat}(h:V p=0\/V p=1)(r:Nat):fctP V r p=0\/fctP V r p=1:=by unfold fctP;split <;> rcases h with h | h <;> rw[h] <;> simp
theorem q510{V:Nat->Int}(r:Nat):∀ n,(∀ p,p<n->V p=0\/V p=1)->indP V r n=0\/indP V r n=1
 | 0,_ => .inr rfl
 | n+1,h=>by unfold indP;rcases q510 r n fun p hp=>h p (by omega) with e | e <;> rcases q694 (h n (by omega)) r with e2 | e2 <;> rw[e,e2] <;> simp
theorem q711{V:Nat->Int}{i j:Nat}:∀ n,(∀ q,q<n->i / 2 ^ q % 2=j / 2 ^ q % 2)->indP V i n=indP V j n
 | 0,_=>rfl
 | n+1,h=>by unfold indP fctP;rw[q711 n fun q hq=>h q (by omega),h n (by omega)]
def rowP(V:Nat->Int):Nat->Nat
 | 0=>0
 | p+1=>rowP V p+(V p).toNat * 2 ^ p
theorem q375{V:Nat->Int}:∀(n:Nat)(f:Nat->Int),(∀ p,p<n->V p=0\/V p=1)->sumF (fun r=>f r * indP V r n) (2 ^ n)=f (rowP V n)
 | 0,f,_=>by simp[sumF,indP,rowP]
 | n+1,f,h=>by
  rw[Nat.pow_succ,Nat.mul_two,q259];have hb:∀ q,q<n->V q=0\/V q=1:=fun q hq=>h q (by omega);rw[q51 (g:=fun r=>f r * indP V r (n+1)) (h:=fun r=>(1 - V n) * (f r * indP V r n)) (2 ^ n) fun i hi=>by show f i * (indP V i n * fctP V i n)=_;unfold fctP;rw[(q390 hi).2.1];simp only[show ¬ (0=1) by decide,if_false];simp only[Int.mul_assoc,Int.mul_comm,Int.mul_left_comm]];rw[q51 (g:=fun j=>(fun r=>f r * indP V r (n+1)) (2 ^ n+j)) (h:=fun j=>V n * (f (2 ^ n+j) * indP V j n)) (2 ^ n) fun i hi=>by obtain ⟨h1,_,h3⟩:=q390 hi;show f (2 ^ n+i) * (indP V (2 ^ n+i) n * fctP V (2 ^ n+i) n)=_;unfold fctP;rw[h1,q711 n h3];simp only[if_true];simp only[Int.mul_assoc,Int.mul_comm,Int.mul_left_comm]];rw[q120,q120,q375 n f hb,q375 n (fun j=>f (2 ^ n+j)) hb];show _=f (rowP V n+(V n).toNat * 2 ^ n);rcases h n (by omega) with e | e
  .rw[e]; simp
  .rw[e]; simp[Nat.add_comm]
theorem q691{V:Int->Int}{l:List Int}(hV:∀ i∈l,0<=V i/\V i<=1):∀ p,p<=l.length->idxP V l p=(rowP (fun q=>V (l[q]?.getD 0)) p:Int)
 | 0,_=>rfl
 | p+1,h=>by
  have h2:=hV _ (aR (show p<l.length by omega));have e:l[p]?.getD 0=l[p]'(by omega):=by rw[aW (by omega)]; rfl
  unfold idxP rowP;rw[q691 hV p (by omega)];simp only[e];rw[Int.natCast_add,Int.natCast_mul,Int.toNat_of_nonneg h2.1];simp
theorem q885{t d:Int}(h0:0<=t)(h1:t<=1000000000000000)(hd:1<=d):divL t d * d<=t/\0<=divL t d:=by
 obtain ⟨a,rfl⟩:=Int.eq_ofNat_of_zero_le h0;obtain ⟨c,rfl⟩:=Int.eq_ofNat_of_zero_le (show 0<=d by omega);have e1:(a:Int).tdiv (c:Int)=((a / c:Nat):Int):=rfl;have h2:=Nat.div_le_self a c;have h3:((a / c:Nat):Int) * (c:Int)<=(a:Int):=by exact_mod_cast Nat.div_mul_le_self a c
 unfold divL;rw[e1];generalize a / c=q at *;rw[wrapI (by omega) (by omega)];exact ⟨h3,by omega⟩
theorem q864{t d:Int}(h0:0<=t)(h1:t<=1000000000000000)(hd:1<=d):t<=divU t d * d/\divU t d * d<t+d/\0<=divU t d:=by
 obtain ⟨a,rfl⟩:=Int.eq_ofNat_of_zero_le h0;obtain ⟨c,rfl⟩:=Int.eq_ofNat_of_zero_le (show 0<=d by omega);have e1:(a:Int).tdiv (c:Int)=((a / c:Nat):Int):=rfl;have e2:(a:Int).tmod (c:Int)=((a % c:Nat):Int):=rfl;have h2:=Nat.div_le_self a c;have h3:(c:Int) * ((a / c:Nat):Int)+((a % c:Nat):Int)=(a:Int):=by exact_mod_cast Nat.div_add_mod a c
 have h4:=Nat.mod_lt a (show c > 0 by omega);unfold divU;rw[e1,e2];generalize a / c=q at *;generalize a % c=r at *;rw[wrapI (n:=(q:Int)) (by omega) (by omega),wrapI (n:=(q:Int)+1) (by omega) (by omega)];rw[Int.mul_comm] at h3;split
 .rw[Int.add_mul,Int.one_mul];omega
 .omega
noncomputable def muA(b:DBlock)(l:List AT)(F:(Nat->Int)->Int):Int:=exA (pickA (srcOf b) l) F (srcOf b).reverse (fun _=>0)
noncomputable def denU(b:DBlock)(l:List AT):Int:=denL (pickA (srcOf b) l) (srcOf b).reverse
theorem bit0:Bit (fun _=>0):=fun _ => .inl rfl
section
variable {b:DBlock} {l:List AT} (hA:q93 b l)
include hA
theorem q838:FacP (pickA (srcOf b) l) (srcOf b).reverse:=fun x hx=>by have:=okA_of hA (sup:=srcOf b) (fun x hx=>hx) x (by simpa using hx);unfold fac;simp;omega
theorem q374:1<=denU b l:=by
 unfold denU;have h:∀ xs:List Int,(∀ x∈xs,x∈srcOf b)->1<=denL (pickA (srcOf b) l) xs:=fun xs=>by
  induction xs with
  | nil=>intro _; exact Int.le_refl _
  | cons x xs ih=>
   intro h;rw[q89];have h1:=ih fun y hy=>h y (by simp[hy]);have h2:=(okA_of hA (sup:=srcOf b) (fun x hx=>hx) x (h x (by simp))).2.1.1;exact Int.le_trans (show (1:Int)<=1 * 1 by omega) (Int.mul_le_mul h1 h2 (by omega) (by omega))
 exact h _ fun x hx=>by simpa using hx
theorem q405{F G:(Nat->Int)->Int}(h:∀ s,Bit s->F s<=G s):muA b l F<=muA b l G:=q719 h _ (q838 hA) _ bit0
omit hA in
theorem mu_ext{F G:(Nat->Int)->Int}(h:∀ s,Bit s->F s=G s):muA b l F=muA b l G:=q634 h _ _ bit0
omit hA in
theorem mu_add(F G:(Nat->Int)->Int):muA b l (fun s=>F s+G s)=muA b l F+muA b l G:=q522 _ F G _ _
omit hA in
theorem mu_mul(c:Int)(F:(Nat->Int)->Int):muA b l (fun s=>c * F s)=c * muA b l F:=q497 _ c F _ _
omit hA in
theorem mu_one:muA b l (fun _=>1)=denU b l:=q877 _ _ _
omit hA in
theorem mu_not(F:(Nat->Int)->Int):muA b l (fun s=>1 - F s)=denU b l - muA b l F:=by have h:=mu_add (b:=b) (l:=l) (fun s=>1 - F s) F;rw[show (fun s:Nat->Int=>1 - F s+F s)=fun _=>1 from funext fun s=>by omega,mu_one] at h;omega
theorem q402{F:(Nat->Int)->Int}(h:∀ s,Bit s->0<=F s):0<=muA b l F:=by have h1:=q405 hA (F:=fun _=>0) (G:=F) h;have h2:=mu_mul (b:=b) (l:=l) 0 (fun _=>1);rw[show (fun s:Nat->Int=>(0:Int) * 1)=fun _=>0 from rfl,Int.zero_mul] at h2;omega
end
def ItvP(x:ST)(m D:Int):Prop:=(0<=x.1/\x.1<=1000)/\(0<=x.2.1/\x.2.1<=1000)/\x.1 * D<=1000 * m/\1000 * m<=x.2.1 * D
section
variable {D:Int} (hD:1<=D)
include hD
theorem leD{x y:Int}(h:x * D<=y * D):x<=y:=Int.le_of_mul_le_mul_right h (by omega)
theorem row_bd{ps:List ST}{r:Nat}(e g:Nat->Int)(n:Nat)(hn:n<=4)(hp:∀ p,p<n->ItvP (ps[p]?.getD (0,0,())) (e p) D)
 (g0:g 0=D) (gs:∀ p,p<n->let f:=if r / 2 ^ p % 2=1 then e p else D - e p
  0<=g (p+1)/\g (p+1)<=g p/\g (p+1)<=f/\g p+f - D<=g (p+1)):∀ p,p<=n->
 (0<=hiR ps r p/\hiR ps r p<=1000)/\(-1000 * (p:Int)<=loR ps r p/\loR ps r p<=1000)/\1000 * g p<=hiR ps r p * D/\loR ps r p * D<=1000 * g p
 | 0,_=>by unfold hiR loR;rw[g0];omega
 | p+1,h=>by
  obtain ⟨h1,h2,h3,h4⟩:=row_bd e g n hn hp g0 gs p (by omega);obtain ⟨i1,i2,i3,i4⟩:=hp p (by omega);have gp:=gs p (by omega);dsimp only at gp;obtain ⟨j0,j1,j2,j3⟩:=gp
  -- the factor
  have hx:(0<=xE ps r p/\xE ps r p<=1000)/\(0<=xL ps r p/\xL ps r p<=1000)/\∃ f,f=(if r / 2 ^ p % 2=1 then e p else D - e p)/\xE ps r p * D<=1000 * f/\1000 * f<=xL ps r p * D:=by
   unfold xE xL;by_cases hb:r / 2 ^ p % 2=0
   .rw[if_pos hb,if_pos hb,if_neg (show ¬ r / 2 ^ p % 2=1 by omega),wrapI (by omega) (by omega),wrapI (by omega) (by omega)];refine ⟨by omega,by omega,_,rfl,?_,?_⟩
    .rw[Int.sub_mul,Int.mul_sub]; omega
    .rw[Int.sub_mul,Int.mul_sub]; omega
   .rw[if_neg hb,if_neg hb,if_pos (show r / 2 ^ p % 2=1 by omega)];exact ⟨i1,i2,_,rfl,i3,i4⟩
  obtain ⟨x1,x2,f,hf,x3,x4⟩:=hx;rw[<- hf] at j2 j3;unfold hiR loR;rw[wrapI (n:=xE ps r p - 1000) (by omega) (by omega),wrapI (n:=loR ps r p+(xE ps r p - 1000)) (by omega) (by omega)];refine ⟨?_,by omega,?_,?_⟩
  .split <;> omega
  .split
   .omega
   .omega
  .rw[Int.add_mul,Int.sub_mul]; omega
theorem q875{truth:List Int}(ht:Bits01 truth){ps:List ST}(hl:truth.length<=16)(g:Nat->Int)(hg0:∀ r,r<truth.length->0<=g r)
 (hg:∀ r,r<truth.length->(0<=hiR ps r ps.length/\hiR ps r ps.length<=1000)/\(-4000<=loR ps r ps.length/\loR ps r ps.length<=1000)/\1000 * g r<=hiR ps r ps.length * D/\loR ps r ps.length * D<=1000 * g r)
 (hs:sumF g truth.length=D):ItvP (bndS truth ps) (sumF (fun r=>truth[r]?.getD 0 * g r) truth.length) D:=by
 have key:∀ v i,i<=truth.length->(0<=sLo truth ps v i/\sLo truth ps v i<=1000 * (i:Int))/\(0<=sHi truth ps v i/\sHi truth ps v i<=1000 * (i:Int))/\
  sLo truth ps v i * D<=1000 * sumF (fun r=>if truth[r]?.getD 0=v then g r else 0) i/\1000 * sumF (fun r=>if truth[r]?.getD 0=v then g r else 0) i<=sHi truth ps v i * D:=by
  intro v i
  induction i with
  | zero=>intro _; simp[sLo,sHi,sumF]
  | succ i ih=>
   intro hi;obtain ⟨k1,k2,k3,k4⟩:=ih (by omega);obtain ⟨h1,h2,h3,h4⟩:=hg i (by omega);have h5:=hg0 i (by omega);have hr:(0<=rowL ps i/\rowL ps i<=1000)/\rowL ps i * D<=1000 * g i:=by
    unfold rowL;split
    .rw[Int.zero_mul]; omega
    .exact ⟨by omega,h4⟩
   unfold sLo sHi sumF;by_cases hv:truth[i]?.getD 0=v
   .rw[if_pos hv,if_pos hv,if_pos hv,wrapI (by omega) (by omega),wrapI (by omega) (by omega),Int.add_mul,Int.add_mul];omega
   .rw[if_neg hv,if_neg hv,if_neg hv];omega
 obtain ⟨a1,a2,a3,a4⟩:=key 0 _ (Nat.le_refl _);obtain ⟨b1,b2,b3,b4⟩:=key 1 _ (Nat.le_refl _);have e1:sumF (fun r=>if truth[r]?.getD 0=1 then g r else 0) truth.length=sumF (fun r=>truth[r]?.getD 0 * g r) truth.length:=q51 _ fun i hi=>by rcases get01 ht i with h | h <;> rw[h] <;> simp
 have e0:sumF (fun r=>if truth[r]?.getD 0=0 then g r else 0) truth.length+sumF (fun r=>if truth[r]?.getD 0=1 then g r else 0) truth.length=D:=by rw[<- q618,<- hs];refine q51 _ fun i hi=>?_;rcases get01 ht i with h | h <;> rw[h] <;> simp
 have m0:0<=sumF (fun r=>truth[r]?.getD 0 * g r) truth.length:=by
  have:∀ n,n<=truth.length->0<=sumF (fun r=>truth[r]?.getD 0 * g r) n:=fun n=>by
   induction n with
   | zero=>intro _; simp[sumF]
   | succ n ih=>
    intro h;have h1:=ih (by omega);have h2:=hg0 n (by omega);unfold sumF;rcases get01 ht n with e | e <;> rw[e] <;> omega
  exact this _ (Nat.le_refl _)
 have m1:0<=sumF (fun r=>if truth[r]?.getD 0=0 then g r else 0) truth.length:=by
  have:∀ n,n<=truth.length->0<=sumF (fun r=>if truth[r]?.getD 0=0 then g r else 0) n:=fun n=>by
   induction n with
   | zero=>intro _; simp[sumF]
   | succ n ih=>
    intro h;have h1:=ih (by omega);have h2:=hg0 n (by omega);unfold sumF;rcases get01 ht n with e | e <;> rw[e] <;> simp <;> omega
  exact this _ (Nat.le_refl _)
 rw[e1] at b3 b4 e0;generalize sumF (fun r=>truth[r]?.getD 0 * g r) truth.length=m at *;generalize sumF (fun r=>if truth[r]?.getD 0=0 then g r else 0) truth.length=m' at *;unfold bndS max3 min3 ItvP;dsimp only;rw[wrapI (n:=1000 - sHi truth ps 0 truth.length) (by omega) (by omega),wrapI (n:=1000 - sLo truth ps 0 truth.length) (by omega) (by omega)];generalize sLo truth ps 0 truth.length=l0 at *;generalize sLo truth ps 1 truth.length=l1 at *;generalize sHi truth ps 0 truth.length=h0 at *;generalize sHi truth ps 1 truth.length=h1 at *;have c1:(1000 - h0) * D<=1000 * m:=by rw[Int.sub_mul]; omega
 have c2:1000 * m<=(1000 - l0) * D:=by rw[Int.sub_mul]; omega
 have c3:l1<=1000:=leD hD (by omega);have c4:1000 - h0<=1000:=leD hD (by omega);have c5:0<=h1:=leD hD (by omega);have c6:0<=1000 - l0:=leD hD (by omega);have cl:∀ x,x * D<=1000 * m->x<=1000->((0<=(if x<0 then 0 else x)/\(if x<0 then 0 else x)<=1000)/\(if x<0 then 0 else x) * D<=1000 * m):=fun x h h'=>by
  split
  .rw[Int.zero_mul]; omega
  .exact ⟨by omega,h⟩
 have ch:∀ x,1000 * m<=x * D->0<=x->((0<=(if 1000<x then 1000 else x)/\(if 1000<x then 1000 else x)<=1000)/\1000 * m<=(if 1000<x then 1000 else x) * D):=fun x h h'=>by
  split
  .omega
  .exact ⟨by omega,h⟩
 have A1:=cl (if l1<1000 - h0 then 1000 - h0 else l1) (by split <;> assumption) (by split <;> omega);have A2:=ch (if 1000 - l0<h1 then 1000 - l0 else h1) (by split <;> assumption) (by split <;> omega);exact ⟨A1.1,A2.1,A1.2,A2.2⟩
end
section
variable {b:DBlock} (hB:BlockP b) {rank:Nat->Nat} (hr:RankP b rank) {l:List AT} (hA:q93 b l)
include hB hr
theorem q540{s:Nat->Int}(hs:Bit s){k:Nat}(hk:k<b.2.1.2.1.length):val b s k=0\/val b s k=1:=by have:=q215 hB hr s (fun k _=>by rcases hs k with h | h <;> omega) hk;omega
noncomputable def inV(b:DBlock)(k:Nat)(s:Nat->Int)(p:Nat):Int:=val b s ((insOf b k)[p]?.getD 0).toNat
theorem q450{s:Nat->Int}(hs:Bit s){k:Nat}(hk:k<b.2.1.2.1.length){p:Nat}(hp:p<(insOf b k).length):inV b k s p=0\/inV b k s p=1:=by unfold inV;rw[get0 hp];exact q540 hB hr hs (q25 hB.1 hk (aR hp)).2
theorem q851{s:Nat->Int}(hs:Bit s){k:Nat}(hk:k<b.2.1.2.1.length)(hg:0<=gateOf b k):val b s k=sumF (fun r=>(q41 b k)[r]?.getD 0 * indP (inV b k s) r (insOf b k).length) (2 ^ (insOf b k).length):=by
 rw[q375 _ (fun r=>(q41 b k)[r]?.getD 0) fun p hp=>q450 hB hr hs hk hp,q498 hB hr s hk hg,
  q691 (fun i hi=>by rcases q540 hB hr hs (q25 hB.1 hk hi).2 with h | h <;> omega) _ (Nat.le_refl _),aE]
 rfl
theorem q761(l:List AT){k:Nat}(hk:k<b.2.1.2.1.length)(hg:0<=gateOf b k):muA b l (fun s=>val b s k)=sumF (fun r=>(q41 b k)[r]?.getD 0 * muA b l (fun s=>indP (inV b k s) r (insOf b k).length)) (2 ^ (insOf b k).length):=by rw[mu_ext fun s hs=>q851 hB hr hs hk hg];unfold muA;rw[q535];refine q51 _ fun i _=>?_;rw[q497]
theorem q862(l:List AT){k:Nat}(hk:k<b.2.1.2.1.length):sumF (fun r=>muA b l (fun s=>indP (inV b k s) r (insOf b k).length)) (2 ^ (insOf b k).length)=denU b l:=by rw[<- mu_one,mu_ext (G:=fun s=>sumF (fun r=>1 * indP (inV b k s) r (insOf b k).length) (2 ^ (insOf b k).length)) fun s hs=>(q375 _ (fun _=>1) fun p hp=>q450 hB hr hs hk hp).symm];unfold muA;rw[q535];exact q51 _ fun i _=>by simp only[Int.one_mul]
include hA
theorem q468:∀(m k:Nat),rank k<m->k<b.2.1.2.1.length->ItvP (intv b l k) (muA b l (fun s=>val b s k)) (denU b l)
 | 0,_,h,_=>absurd h (Nat.not_lt_zero _)
 | m+1,k,hm,hk=>by
  have hD:=q374 hA;by_cases hg:gateOf b k<0
  .rw[q716 l hg];have hs:=q342 hB hr hA hk hg;have ha:=okA_of hA (sup:=[(k:Int)]) (fun x hx=>by simp only[List.mem_singleton] at hx; subst hx; exact hs) (k:Int) (by simp);have e:=q640 (A:=pickA (srcOf b) l) (k:=k) (srcOf b).reverse (fun _=>0) (by rw[List.Nodup,List.pairwise_reverse]; exact (q61 b).imp fun h=>Ne.symm h) (by simpa using hs);have e':muA b l (fun s=>val b s k) * (pickA (srcOf b) l (k:Int)).1.2.1=(pickA (srcOf b) l (k:Int)).1.1 * denU b l:=by rw[mu_ext fun s _=>q128 s hg]; exact e
   generalize muA b l (fun s=>val b s k)=mu at *;generalize denU b l=D at *;generalize pickA (srcOf b) l (k:Int)=a at *;obtain ⟨⟨num,den,u⟩,dn,u2⟩:=a;dsimp only at ha e' |-;unfold srcI ItvP;dsimp only;rw[wrapI (n:=1000 * num) (by omega) (by omega)];obtain ⟨l1,l2⟩:=q885 (t:=1000 * num) (d:=den) (by omega) (by omega) (by omega);obtain ⟨u1,u2,u3⟩:=q864 (t:=1000 * num) (d:=den) (by omega) (by omega) (by omega);have hden:(1:Int)<=den:=by omega
   have z:1000 * num * D=1000 * mu * den:=by rw[Int.mul_assoc,<- e',<- Int.mul_assoc]
   refine ⟨⟨l2,?_⟩,⟨u3,?_⟩,?_,?_⟩
   .refine leD hden (Int.le_trans l1 ?_);omega
   .have:divU (1000 * num) den * den<1001 * den:=by omega
    have:=Int.lt_of_mul_lt_mul_right this (by omega);omega
   .refine leD hden ?_;have:=Int.mul_le_mul_of_nonneg_right l1 (show 0<=D by omega);rw[Int.mul_right_comm];omega
   .refine leD hden ?_;have:=Int.mul_le_mul_of_nonneg_right u1 (show 0<=D by omega);rw[Int.mul_right_comm (divU _ _)];omega
  have hg0:0<=gateOf b k:=by omega
  rw[q571 hB hr l hk hg0,q761 hB hr l hk hg0];obtain ⟨htl,ht⟩:=q430 hB hr hk hg0;have hil:=q220 hB hk hg0;have h16:=pow2_4 hil.2;have hs1:=q862 hB hr l hk;rw[<- htl] at hs1 |-;refine q875 hD ht (by omega) _ (fun r _=>q402 hA fun s hs=>?_) (fun r _=>?_) hs1
  .rcases q510 (V:=inV b k s) r (insOf b k).length (fun p hp=>q450 hB hr hs hk hp) with h | h <;> rw[h] <;> decide
  .rw[List.length_map];have:=row_bd hD (ps:=(insOf b k).map fun i=>intv b l i.toNat) (r:=r) (fun p=>muA b l (fun s=>inV b k s p)) (fun p=>muA b l (fun s=>indP (inV b k s) r p)) (insOf b k).length hil.2 (fun p hp=>?_) mu_one (fun p hp=>?_) _ (Nat.le_refl _)
   .exact ⟨this.1,by omega,this.2.2⟩
   .have hmem:=aR hp;have h1:=hr.down k hk hg0 _ hmem;have ih:=q468 m ((insOf b k)[p]).toNat (by omega) (q25 hB.1 hk hmem).2;rw[getS (by simpa using hp),List.getElem_map];have e:(fun s=>inV b k s p)=fun s=>val b s ((insOf b k)[p]).toNat:=funext fun s=>by unfold inV; rw[get0 hp]
    rw[e];exact ih
   .dsimp only;have hb:∀ s,Bit s->(indP (inV b k s) r p=0\/indP (inV b k s) r p=1)/\(fctP (inV b k s) r p=0\/fctP (inV b k s) r p=1):=fun s hs=>
     ⟨q510 r _ fun q hq=>q450 hB hr hs hk (by omega),q694 (q450 hB hr hs hk hp) r⟩
    have ef:muA b l (fun s=>fctP (inV b k s) r p)=if r / 2 ^ p % 2=1 then muA b l (fun s=>inV b k s p) else denU b l - muA b l (fun s=>inV b k s p):=by
     by_cases hb:r / 2 ^ p % 2=1
     .rw[if_pos hb];exact congrArg _ (funext fun s=>by unfold fctP; rw[if_pos hb])
     .rw[if_neg hb,<- mu_not];exact congrArg _ (funext fun s=>by unfold fctP; rw[if_neg hb])
    rw[<- ef];refine ⟨q402 hA fun s hs=>?_,q405 hA fun s hs=>?_,q405 hA fun s hs=>?_,?_⟩
    .obtain ⟨h1,h2⟩:=hb s hs;show 0<=indP _ r p * fctP _ r p;rcases h1 with h1 | h1 <;> rcases h2 with h2 | h2 <;> rw[h1,h2] <;> decide
    .obtain ⟨h1,h2⟩:=hb s hs;show indP _ r p * fctP _ r p<=_;rcases h1 with h1 | h1 <;> rcases h2 with h2 | h2 <;> rw[h1,h2] <;> decide
    .obtain ⟨h1,h2⟩:=hb s hs;show indP _ r p * fctP _ r p<=_;rcases h1 with h1 | h1 <;> rcases h2 with h2 | h2 <;> rw[h1,h2] <;> decide
    .have h:=q405 hA (F:=fun s=>indP (inV b k s) r p+fctP (inV b k s) r p) (G:=fun s=>indP (inV b k s) r (p+1)+1) fun s hs=>by obtain ⟨h1,h2⟩:=hb s hs;show indP _ r p+fctP _ r p<=indP _ r p * fctP _ r p+1;rcases h1 with h1 | h1 <;> rcases h2 with h2 | h2 <;> rw[h1,h2] <;> decide
     rw[mu_add,mu_add,mu_one] at h;omega
end
theorem q479{a b c d:Int}(ha:0<=a)(hc:0<=c)(hb:1<=b)(hd:1<=d)(h:a * d=c * b):redF a b=redF c d:=by rw[<- q432 ha (by omega) hd,<- q432 hc (show 0<=d by omega) hb,Int.mul_comm d a,h,Int.mul_comm d b,Int.mul_comm c b]
theorem q485{a b:Int}(ha:0<=a)(hb:1<=b):∃ g:Int,1<=g/\a=g * (redF a b).1/\b=g * (redF a b).2.1/\0<=(redF a b).1/\1<=(redF a b).2.1/\Nat.gcd (redF a b).1.toNat (redF a b).2.1.toNat=1:=by
 obtain ⟨x,rfl⟩:=Int.eq_ofNat_of_zero_le ha;obtain ⟨y,rfl⟩:=Int.eq_ofNat_of_zero_le (show 0<=b by omega);have hg:0<Nat.gcd x y:=Nat.gcd_pos_of_pos_right _ (by omega);have e:redF (x:Int) (y:Int)=(((x / Nat.gcd x y:Nat):Int),((y / Nat.gcd x y:Nat):Int),()):=by unfold redF;rw[aE,aE];rfl
 rw[e];refine ⟨(Nat.gcd x y:Int),by omega,?_,?_,Int.natCast_nonneg _,?_,?_⟩
 .dsimp only; exact_mod_cast (Nat.mul_div_cancel' (Nat.gcd_dvd_left x y)).symm
 .dsimp only; exact_mod_cast (Nat.mul_div_cancel' (Nat.gcd_dvd_right x y)).symm
 .dsimp only;have:=Nat.div_pos (Nat.le_of_dvd (by omega) (Nat.gcd_dvd_right x y)) hg;omega
 .dsimp only;rw[aE,aE,Nat.gcd_div (Nat.gcd_dvd_left x y) (Nat.gcd_dvd_right x y),Nat.div_self hg]
theorem q801{f:FT}(h:FracP f):redF f.1 f.2.1=f:=by obtain ⟨a,c,u⟩:=f;obtain ⟨h1,h2,h3⟩:=h;dsimp only at h3 |-;unfold redF;rw[h3];simp
theorem q868{b:DBlock}{l:List AT}{F G:(Nat->Int)->Int}(D E:Nat->Prop)(hF:∀ s t:Nat->Int,(∀ k,D k->s k=t k)->F s=F t)(hG:∀ s t:Nat->Int,(∀ k,E k->s k=t k)->G s=G t)(hd:∀ k,D k->¬ E k):
 muA b l (fun s=>F s * G s) * denU b l=muA b l F * muA b l G:=q695 hF hG hd _ _
theorem ind_mu{b:DBlock}(hB:BlockP b){rank:Nat->Nat}(hr:RankP b rank){l:List AT}(hA:q93 b l){k:Nat}(hk:k<b.2.1.2.1.length)(hg:0<=gateOf b k)
 (hap:∀ q (h:q<(insOf b k).length),q544 b (insOf b k) q h) {A:Int->AT} (hAx:∀ x∈insOf b k,(A x).1.1 * denU b l=muA b l (fun s=>val b s x.toNat) * (A x).1.2.1) (r:Nat):
 ∀ p,p<=(insOf b k).length->wtP A (insOf b k) r (-1) p * denU b l=muA b l (fun s=>indP (inV b k s) r p) * dnP A (insOf b k) (-1) p
 | 0,_=>by show 1 * _=muA b l (fun _=>1) * 1;rw[mu_one,Int.one_mul,Int.mul_one]
 | p+1,h=>by
  have hp:p<(insOf b k).length:=by omega
  have ih:=ind_mu hB hr hA hk hg hap hAx r p (by omega);have hmem:=aR hp;have hax:=hAx _ hmem;have hD:=q374 hA;rw[q315 A _ r hp,q251 A _ hp]
  -- the factor
  have ef:fac (A (insOf b k)[p]) (decide (r / 2 ^ p % 2=1)) * denU b l=muA b l (fun s=>fctP (inV b k s) r p) * (A (insOf b k)[p]).1.2.1:=by
   have e:(fun s=>inV b k s p)=fun s=>val b s ((insOf b k)[p]).toNat:=funext fun s=>by unfold inV; rw[get0 hp]
   by_cases hb:r / 2 ^ p % 2=1
   .rw[show (fun s=>fctP (inV b k s) r p)=fun s=>inV b k s p from funext fun s=>by unfold fctP; rw[if_pos hb],e,<- hax];unfold fac;simp[hb]
   .rw[show (fun s=>fctP (inV b k s) r p)=fun s=>1 - inV b k s p from funext fun s=>by unfold fctP; rw[if_neg hb],mu_not,e];unfold fac;simp only[hb,decide_false,Bool.false_eq_true,if_false];rw[Int.sub_mul,Int.sub_mul,<- hax,Int.mul_comm (denU b l)]
  -- they lean on different sources
  have e1:(fun s=>indP (inV b k s) r (p+1))=fun s=>indP (inV b k s) r p * fctP (inV b k s) r p:=funext fun s=>by rw[indP]
  have hpr:muA b l (fun s=>indP (inV b k s) r p * fctP (inV b k s) r p) * denU b l=muA b l (fun s=>indP (inV b k s) r p) * muA b l (fun s=>fctP (inV b k s) r p):=by
   refine q868 (F:=fun s=>indP (inV b k s) r p) (G:=fun s=>fctP (inV b k s) r p) (fun j=>∃ q,∃ hq:q<(insOf b k).length,q<p/\SupP b ((insOf b k)[q]).toNat j) (fun j=>SupP b ((insOf b k)[p]).toNat j) ?_ ?_ ?_
   .intro s t hst;have:∀ p',p'<=p->indP (inV b k s) r p'=indP (inV b k t) r p':=fun p'=>by
     induction p' with
     | zero=>intro _; simp only[indP]
     | succ p' ih'=>
      intro hp';rw[indP,indP];unfold fctP;have e:inV b k s p'=inV b k t p':=by unfold inV;rw[get0 (by omega)];exact q543 fun j hj=>hst j ⟨p',by omega,by omega,hj⟩
      rw[ih' (by omega),e]
    exact this p (Nat.le_refl _)
   .intro s t hst;unfold fctP;have e:inV b k s p=inV b k t p:=by unfold inV;rw[get0 hp];exact q543 fun j hj=>hst j hj
    rw[e]
   .rintro j ⟨q,hq,hqp,hj⟩ hj2;have hjn:=(q339 hB.1 hr.down hj.2 (q25 hB.1 hk (aR hq)).2).1;refine hap p hp (j:Int) (q123.2 ⟨j,hjn,hj2,rfl⟩) ?_;rw[List.mem_flatMap];refine ⟨(insOf b k)[q],?_,q123.2 ⟨j,hjn,hj,rfl⟩⟩;rw[List.mem_take_iff_getElem];exact ⟨q,by omega,rfl⟩
  refine Int.eq_of_mul_eq_mul_right (show denU b l≠0 by omega) ?_;rw[e1];generalize muA b l (fun s=>indP (inV b k s) r p * fctP (inV b k s) r p)=m1 at *;generalize muA b l (fun s=>indP (inV b k s) r p)=m0 at *;generalize muA b l (fun s=>fctP (inV b k s) r p)=f at *;generalize fac (A (insOf b k)[p]) (decide (r / 2 ^ p % 2=1))=fc at *;generalize wtP A (insOf b k) r (-1) p=w at *;generalize dnP A (insOf b k) (-1) p=d at *;generalize (A (insOf b k)[p]).1.2.1=a at *;generalize denU b l=D at *
  calc w * fc * D * D=(w * D) * (fc * D):=by simp only[Int.mul_assoc,Int.mul_comm,Int.mul_left_comm]
   _=(m0 * d) * (f * a):=by rw[ih,ef]
   _=(m0 * f) * (d * a):=by simp only[Int.mul_assoc,Int.mul_comm,Int.mul_left_comm]
   _=(m1 * D) * (d * a):=by rw[hpr]
   _=m1 * (d * a) * D:=by simp only[Int.mul_assoc,Int.mul_comm,Int.mul_left_comm]
section
variable {b:DBlock} (hB:BlockP b) {rank:Nat->Nat} (hr:RankP b rank) {l:List AT} (hA:q93 b l)
include hB hr hA
theorem q344{k:Nat}(hk:k<b.2.1.2.1.length):0<=muA b l (fun s=>val b s k):=q402 hA fun s hs=>by rcases q540 hB hr hs hk with h | h <;> omega
theorem q804:∀(m k:Nat)(f:FT),k<b.2.1.2.1.length->TreeP b k->riseN b l m k=some f->f=redF (muA b l (fun s=>val b s k)) (denU b l)
 | 0,_,_,_,_,h=>by cases h
 | m+1,k,f,hk,hT,h=>by
  have hD:=q374 hA;have hmp:=q344 hB hr hA hk;unfold riseN at h;split at h
  .rename_i hg;cases h;have hs:=q342 hB hr hA hk hg;obtain ⟨q,hq,hqe⟩:=List.getElem_of_mem hs;have hql:q<l.length:=by rw[hA.2.1]; exact hq
   have ep:=q385 (q61 b) hq hql hqe;have hf:FracP (pickA (srcOf b) l (k:Int)).1:=by rw[ep]; exact (hA.2.2 _ (aR hql)).1
   have e:=q640 (A:=pickA (srcOf b) l) (k:=k) (srcOf b).reverse (fun _=>0) (by rw[List.Nodup,List.pairwise_reverse]; exact (q61 b).imp fun h=>Ne.symm h) (by simpa using hs);have e':muA b l (fun s=>val b s k) * (pickA (srcOf b) l (k:Int)).1.2.1=(pickA (srcOf b) l (k:Int)).1.1 * denU b l:=by rw[mu_ext fun s _=>q128 s hg]; exact e
   have hf':=hf;unfold FracP BtwP at hf';rw[<- q801 hf];exact q479 (by omega) hmp (by omega) hD e'.symm
  .rename_i hg;have hg0:0<=gateOf b k:=by omega
   split at h
   .rename_i hall;obtain ⟨hap,hTi⟩:=(TreeP.iff hg0).1 hT;obtain ⟨htl,ht⟩:=q430 hB hr hk hg0;have hok:=q515 hB hr hA hk hall;have hAx:∀ x∈insOf b k,(riseA b l m x).1.1 * denU b l=muA b l (fun s=>val b s x.toNat) * (riseA b l m x).1.2.1:=fun x hx=>by
     obtain ⟨h0,h1⟩:=q25 hB.1 hk hx;cases hv:riseN b l m x.toNat with
     | none=>exact absurd hv (hall x hx)
     | some g=>
      have e:=q804 m x.toNat g h1 (hTi x hx) hv;obtain ⟨c,hc,e1,e2,_⟩:=q485 (q344 hB hr hA h1) hD;unfold riseA;rw[hv];dsimp only[Option.getD];rw[e];generalize redF (muA b l (fun s=>val b s x.toNat)) (denU b l)=q at *
      conv=>lhs; rw[e2]
      conv=>rhs; rw[e1]
      simp only[Int.mul_assoc,Int.mul_comm,Int.mul_left_comm]
    have hind:=ind_mu hB hr hA hk hg0 hap hAx;change comb (q41 b k) (riseA b l m) (insOf b k)=some f at h;unfold comb at h;split at h
    .cases h
    cases h;have hd:=dn_pos hok _ (Nat.le_refl _);refine q479 (q508 ht hok).1 hmp hd hD ?_;rw[q761 hB hr l hk hg0];unfold combS;rw[q425,Int.mul_comm,<- q120,Int.mul_comm _ (dnP _ _ _ _),<- q120];refine q51 _ fun r _=>?_;have:=hind r _ (Nat.le_refl _);rw[Int.mul_left_comm,Int.mul_comm (denU b l),this];simp only[Int.mul_assoc,Int.mul_comm,Int.mul_left_comm]
   .cases h
omit hB hr hA in
theorem q548(b:DBlock)(k:Nat):(srcOf b).filter (fun x=>decide (x∈supL b k))=supL b k:=by
 have hi:(srcOf b).Pairwise (· < ·):=by unfold srcOf q117;refine List.Pairwise.map _ (R:=fun a b:Nat=>a<b) (fun a b h=>by show (a:Int)<(b:Int); omega) ?_;exact (List.pairwise_lt_range).filter _
 refine q537 (hi.filter _) (q294 b k) fun x=>?_;rw[List.mem_filter,decide_eq_true_eq];exact ⟨fun h=>h.2,fun h=>⟨q253 x h,h⟩⟩
theorem q870{k:Nat}(hk:k<b.2.1.2.1.length):probR b l k=redF (muA b l (fun s=>val b s k)) (denU b l):=by
 have hS:Sup b (srcOf b):=⟨q61 b,fun x hx=>q391.1 hx⟩;have hden:dnP (pickA (srcOf b) l) (srcOf b) (-1) (srcOf b).length=denU b l:=by unfold denU;rw[<- q660,List.reverse_reverse,List.length_reverse]
 rw[<- q762 hS (q548 b k) (okA_of hA fun x hx=>hx) (q421 hB hr _ hk),q533 (q61 b),hden];rfl
end
section
variable {b:DBlock} {l:List AT} (hA:q93 b l) (k:Nat)
include hA
end
section
variable {N:Nat} (hM:1000000000000<=N) {b:DBlock} (hb:SmallB b)
include hM hb
end
end Go.Proofs.YtgldiandbkfmkaaGreatDoor
