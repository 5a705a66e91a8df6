/- The reference's draws: what they hand back is small. No program in sight. The reference's draws of libraries and designs: what they hand back is small. No program in sight. The reference's draws of wires and blocks: what they hand back is small. No program in sight. The reference's draws of the logic's chapter: they end,and what they hand back is small. No program in sight. The reference's draws of activities: they end,and what they hand back is small. No program in sight. What the laws of the logic's chapter share. No program in sight. A net's probability over more sources than it leans on. No program in sight. Sums over all values of the sources: means,bounds,independence. No program in sight. The interval of a net holds its probability. No program in sight. A tree-like net's chance is its probability. No program in sight. Densities,their bound,their parts. No program in sight. -/
import Derived.Test.YtgldiandbkfmkaaGreatDoorPgX
import Derived.Test.YtgldiandbkfmkaaGreatDoorPgY
import Derived.Test.YtgldiandbkfmkaaGreatDoorPgF
namespace Go.Proofs.YtgldiandbkfmkaaGreatDoor
set_option linter.unusedSimpArgs false
set_option linter.unusedVariables false
set_option linter.unusedSectionVars false
set_option maxHeartbeats 1000000
abbrev Src:Type:=List Int×Int×Int×Unit
def SrcP(s:Src):Prop:=(0<=s.2.1/\s.1.length<4000000)/\(0<=s.2.2.1/\s.2.2.1<2147483647)/\∀ b∈s.1,BtwP 0 255 b
section
variable {N:Nat} (hN:HN N) {u:Unit}
theorem tmodB{a b:Int}(h0:0<=a)(hb:0<b):0<=a.tmod b/\a.tmod b<b:=⟨Int.tmod_nonneg b h0,Int.tmod_lt_of_pos a hb⟩
theorem q12{s:Src}(h:SrcP s)(n:Int):Ret (F_1 N (s,n,u)) (fun r=>(0<=r.1.1/\(r.1.1=0\/r.1.1<n))/\SrcP r.2):=by
 obtain ⟨code,at0,seed,u0⟩:=s;obtain ⟨⟨h1,h2⟩,⟨h3,h4⟩,h5⟩:=h;dsimp only at h1 h2 h3 h4 h5;unfold F_1;dsimp only;refine rf (fun hn=>rb ⟨⟨Int.le_refl _,.inl rfl⟩,⟨h1,h2⟩,⟨h3,h4⟩,h5⟩) fun hn=>rf (fun ha=>?_) fun ha=>?_
 .have hlt:at0.toNat<code.length:=by omega
  refine vd h1 hlt ?_;have hb:=h5 _ (aR hlt);unfold BtwP at hb;generalize code[at0.toNat]=e at hb |-;rw[wrapI (n:=e) (by omega) (by omega),wrapI (n:=at0+1) (by omega) (by omega)];refine rf (fun h6=>rz (by omega) (rb ?_)) fun h6=>rz (by omega) (rb ?_)
  .have:=tmodB (a:=e) (b:=n) hb.1 (by omega);exact ⟨⟨this.1,.inr this.2⟩,⟨by dsimp only; omega,h2⟩,⟨h3,h4⟩,h5⟩
  .rw[wrapI (n:=seed * 48271) (by omega) (by omega),wrapI (n:=seed * 48271+e) (by omega) (by omega),wrapI (n:=seed * 48271+e+1) (by omega) (by omega)];have k1:=tmodB (a:=seed * 48271+e+1) (b:=2147483647) (by omega) (by omega);have k2:=tmodB (a:=(seed * 48271+e+1).tmod 2147483647) (b:=n) k1.1 (by omega);exact ⟨⟨k2.1,.inr k2.2⟩,⟨by dsimp only; omega,h2⟩,k1,h5⟩
 .refine rz (by omega) (rb ?_);rw[wrapI (n:=seed * 48271) (by omega) (by omega),wrapI (n:=seed * 48271+11) (by omega) (by omega)];have k1:=tmodB (a:=seed * 48271+11) (b:=2147483647) (by omega) (by omega);have k3:0<=((seed * 48271+11).tmod 2147483647).tdiv 7/\((seed * 48271+11).tmod 2147483647).tdiv 7<=2147483647:=by rw[Int.tdiv_eq_ediv_of_nonneg k1.1];omega
  rw[wrapI (by omega) (by omega)];have k2:=tmodB (b:=n) k3.1 (by omega);exact ⟨⟨k2.1,.inr k2.2⟩,⟨h1,h2⟩,k1,h5⟩
theorem appOk{B M:Type}{R:M->Prop}{l:List B}{a:B}{x:Option M}(h:l.length<4000000)(h1:Ret x R):Ret (bif decide ((l++[a]).length<=lim) then x else none) R:=
 rk (by simp; unfold lim; omega) h1
theorem lenOk{B M:Type}{R:M->Prop}{l:List B}{x:Option M}(h:l.length<4000000)(h1:Ret x R):Ret (bif decide (l.length<=lim) then x else none) R:=
 rk (by unfold lim; omega) h1
include hN in
theorem q199{s:Src}(h:SrcP s)(n:Int):Ret (F_3 N (s,n,u)) (fun r=>(1<=r.1.1.length/\r.1.1.length<=3)/\SrcP r.2):=by
 unfold F_3;dsimp only;refine Ret.bind (q12 h n) ?_;rintro ⟨⟨a,u1⟩,s1⟩ ⟨_,hs1⟩;dsimp only at hs1 |-;refine Ret.bind (q12 hs1 3) ?_;rintro ⟨⟨c,u2⟩,s2⟩ ⟨hc,hs2⟩;dsimp only at hc hs2 |-;rw[wrapI (n:=1+c) (by omega) (by omega)];refine va (I:=fun(s:Int×Int×Src×List Int×Unit)=>0<=s.2.1/\s.2.1+s.2.2.2.1.length=1+c/\SrcP s.2.2.1) (T:=fun s=>s.2.1.toNat) ?_ N _ ⟨by dsimp only; omega,by simp,hs2⟩ (by dsimp only; omega);rintro ⟨at1,k,s',out,u3⟩ next ⟨h1,h2,h3⟩ hnext
 dsimp only at h1 h2 h3 |-;refine rf (fun hk=>?_) fun hk=>rb ⟨by dsimp only; omega,h3⟩;refine appOk (by omega) ?_;refine Ret.bind (q12 h3 n) ?_;rintro ⟨⟨d,u4⟩,s4⟩ ⟨_,hs4⟩;dsimp only at hs4 |-;rw[wrapI (n:=k - 1) (by omega) (by omega)];exact hnext _ ⟨by dsimp only; omega,by simp; omega,hs4⟩ (by dsimp only; omega)
include hN in
theorem q354{s:Src}(h:SrcP s)(n:Int):Ret (F_4 N (s,n,u)) (fun r=>SmallT r.1.1/\SrcP r.2):=by
 unfold F_4;dsimp only;refine Ret.bind (q199 hN h 60) ?_;rintro ⟨⟨sl,u1⟩,s1⟩ ⟨hsl,hs1⟩;dsimp only at hsl hs1 |-;refine Ret.bind (q199 hN hs1 40) ?_;rintro ⟨⟨ll,u2⟩,s2⟩ ⟨hll,hs2⟩;dsimp only at hll hs2 |-;have hm:sl.length * ll.length<=3 * 3:=Nat.mul_le_mul hsl.2 hll.2;have hm':((sl.length:Int) * (ll.length:Int))=((sl.length * ll.length:Nat):Int):=by simp
 rw[hm',wrapI (n:=((sl.length * ll.length:Nat):Int)) (by omega) (by omega)];generalize hL:sl.length * ll.length=L at hm;refine rq L (fun i (s:Src×List Int×Unit)=>SrcP s.1/\s.2.1.length=i) (by omega) (by omega) ⟨hs2,rfl⟩ ?_ ?_
 .rintro i ⟨s',vs,u3⟩ next hi ⟨h1,h2⟩ hnext
  dsimp only at h1 h2 hnext |-;refine rh (by omega) ?_;refine Ret.bind (q12 h1 10) ?_;rintro ⟨⟨d,u4⟩,s4⟩ ⟨hd,hs4⟩;dsimp only at hs4 |-;refine rz (by omega) ?_;have hmod:((i:Int).tmod (ll.length:Int))=((i % ll.length:Nat):Int):=rfl;rw[hmod];have hz:0<i % ll.length->1<=i:=fun h=>by
   rcases Nat.eq_zero_or_pos i with h0 | h0
   .subst h0; simp at h
   .exact h0
  refine rf (fun hp=>?_) fun hp=>?_
  .have hi1:=hz (by omega);rw[wrapI (n:=(i:Int) - 1) (by omega) (by omega)];refine rt (by omega) (by omega) (rl (by omega) ?_);refine Ret.bind (q12 hs4 20) ?_;rintro ⟨⟨d5,u5⟩,s5⟩ ⟨_,hs5⟩;dsimp only at hs5 |-;refine rf (fun hq=>?_) fun hq=>?_
   .rw[wrapI (n:=(i:Int) - (ll.length:Int)) (by omega) (by omega)];refine rt (by omega) (by omega) (rl (by omega) ?_);refine Ret.bind (q12 hs5 20) ?_;rintro ⟨⟨d6,u6⟩,s6⟩ ⟨_,hs6⟩;dsimp only at hs6 |-;exact appOk (by omega) (hnext _ ⟨hs6,by simp; omega⟩)
   .exact appOk (by omega) (hnext _ ⟨hs5,by simp; omega⟩)
  .refine rf (fun hq=>?_) fun hq=>?_
   .rw[wrapI (n:=(i:Int) - (ll.length:Int)) (by omega) (by omega)];refine rt (by omega) (by omega) (rl (by omega) ?_);refine Ret.bind (q12 hs4 20) ?_;rintro ⟨⟨d6,u6⟩,s6⟩ ⟨_,hs6⟩;dsimp only at hs6 |-;exact appOk (by omega) (hnext _ ⟨hs6,by simp; omega⟩)
   .exact appOk (by omega) (hnext _ ⟨hs4,by simp; omega⟩)
 .rintro ⟨s',vs,u3⟩ next ⟨h1,h2⟩
  dsimp only at h1 h2 |-;refine rd (by omega) (rb ⟨⟨?_,?_,?_⟩,h1⟩) <;> dsimp only <;> omega
include hN in
theorem q98{s:Src}(h:SrcP s)(n:Int):Ret (F_5 N (s,n,u)) (fun r=>q424 r.1.1/\SrcP r.2):=by
 unfold F_5;dsimp only;refine Ret.bind (q354 hN h n) ?_;rintro ⟨⟨t1,u1⟩,s1⟩ ⟨h1,hs1⟩;dsimp only at h1 hs1 |-;refine Ret.bind (q354 hN hs1 n) ?_;rintro ⟨⟨t2,u2⟩,s2⟩ ⟨h2,hs2⟩;refine rb ⟨⟨by simp,fun t ht=>?_⟩,hs2⟩;simp only[List.mem_cons,List.not_mem_nil,or_false] at ht;rcases ht with rfl | rfl
 .exact h1
 .exact h2
include hN in
theorem q78{s:Src}(h:SrcP s)(k a b c:Int):Ret (F_6 N (s,k,a,b,c,u)) (fun r=>SmallA r.1.1/\SrcP r.2):=by
 unfold F_6;dsimp only;refine rf (fun _=>?_) fun _=>?_
 .refine Ret.bind (q12 h 10) ?_;rintro ⟨⟨d,u1⟩,s1⟩ ⟨_,hs1⟩;dsimp only at hs1 |-;refine Ret.bind (q98 hN hs1 _) ?_;rintro ⟨⟨ts,u2⟩,s2⟩ ⟨h2,hs2⟩;exact rb ⟨⟨h2,by simp,by simp⟩,hs2⟩
 .refine Ret.bind (q12 h 20) ?_;rintro ⟨⟨d,u1⟩,s1⟩ ⟨_,hs1⟩;dsimp only at hs1 |-;refine Ret.bind (q98 hN hs1 _) ?_;rintro ⟨⟨ts,u2⟩,s2⟩ ⟨h2,hs2⟩;dsimp only at h2 hs2 |-;refine Ret.bind (q98 hN hs2 _) ?_;rintro ⟨⟨ts3,u3⟩,s3⟩ ⟨h3,hs3⟩;exact rb ⟨⟨h2,h3⟩,hs3⟩
def q336(N:Nat)(t:List Int)(k:Nat):Prop:=∀(a:ByteArray)(b:Int)(c:List DPin)(d:List DArc)(e f:Int)(u v:Unit)(pin:Nat),pin<k->∃ r,F_2 N ((a,b,c,d,t,e,f,u),(pin:Int),v)=some r
include hN in
theorem q112{s:Src}(h:SrcP s){nm:ByteArray}(hnm:nm.size<4000000){t:List Int}{K:Nat}(hK:(t.length=2/\K=1)\/(t.length=4/\K=2)\/(t.length=8/\K=3))(hS:q336 N t K):
 Ret (F_7 N (s,nm,t,u)) (fun r=>SmallC r.1.1/\SrcP r.2):=by
 unfold F_7;dsimp only;refine Ret.bind (q12 h 50) ?_;rintro ⟨⟨d1,u1⟩,s1⟩ ⟨_,hs1⟩;dsimp only at hs1 |-;refine Ret.bind (q12 hs1 80) ?_;rintro ⟨⟨d2,u2⟩,s2⟩ ⟨_,hs2⟩;dsimp only at hs2 |-;refine va (I:=fun(s:Int×Src×List DPin×Unit)=>((s.1=1/\s.2.2.1.length=0)\/(s.1=2/\s.2.2.1.length=1)\/(s.1=4/\s.2.2.1.length=2)\/(s.1=8/\s.2.2.1.length=3))/\s.1<=t.length/\SrcP s.2.1/\∀ p∈s.2.2.1,p.1.size<4000000) (T:=fun s=>(16 - s.1).toNat) ?_ N _ ⟨.inl ⟨rfl,rfl⟩,by dsimp only; omega,hs2,by simp⟩ (by dsimp only; omega);rintro ⟨n,s3,pins,u3⟩ next ⟨h1,h2,h3,h4⟩ hnext
 dsimp only at h1 h2 h3 h4 |-;refine rf (fun hn=>?_) fun hn=>?_
 .have hl:pins.length<[(⟨#[97]⟩:ByteArray),(⟨#[98]⟩:ByteArray),(⟨#[99]⟩:ByteArray),(⟨#[100]⟩:ByteArray)].length:=by simp; omega
  refine ri hl ?_;have e0:((pins.length:Int)).toNat=pins.length:=by omega
  rw[e0];refine rl hl ?_;have hnm:([(⟨#[97]⟩:ByteArray),(⟨#[98]⟩:ByteArray),(⟨#[99]⟩:ByteArray),(⟨#[100]⟩:ByteArray)][pins.length]).size<4000000:=by have:=aR hl;simp only[List.mem_cons,List.not_mem_nil,or_false] at this;rcases this with h | h | h | h <;> rw[h] <;> decide
  refine Ret.bind (q12 h3 9) ?_;rintro ⟨⟨d5,u5⟩,s5⟩ ⟨_,hs5⟩;dsimp only at hs5 |-;refine appOk (by omega) ?_;rw[wrapI (n:=2 * n) (by omega) (by omega)];refine hnext _ ⟨by simp only[aY,aF,List.length_nil]; omega,by dsimp only; omega,hs5,fun p hp=>?_⟩ (by dsimp only; omega);rcases List.mem_append.1 hp with hp | hp
  .exact h4 p hp
  .simp only[List.mem_cons,List.not_mem_nil,or_false] at hp;subst hp; exact hnm
 .refine appOk (by omega) ?_;have hpk:pins.length=K:=by omega
  refine rq pins.length (fun i (s:Src×List DArc×Unit)=>SrcP s.1/\s.2.1.length<=i/\∀ a∈s.2.1,SmallA a) (by omega) (by omega) ⟨h3,by simp,by simp⟩ ?_ ?_
  .rintro i ⟨s',arcs,u6⟩ next2 hi ⟨g1,g2,g3⟩ hnext2;dsimp only at g1 g2 g3 hnext2 |-;refine rh (by omega) ?_;obtain ⟨r,hr⟩:=hS nm 1 (pins++[((⟨#[121]⟩:ByteArray),(2:Int),(0:Int),false,())]) [] d1 d2 u2 () i (by omega);refine ra hr ?_;refine rm (fun _=>?_) fun _=>hnext2 _ ⟨g1,by dsimp only; omega,g3⟩;refine Ret.bind (q78 hN g1 _ _ _ _) ?_;rintro ⟨⟨ac,u7⟩,s7⟩ ⟨ha,hs7⟩;dsimp only at ha hs7 |-;refine appOk (by omega) (hnext2 _ ⟨hs7,by simp; omega,fun a hp=>?_⟩);rcases List.mem_append.1 hp with hp | hp
   .exact g3 a hp
   .simp only[List.mem_cons,List.not_mem_nil,or_false] at hp;subst hp; exact ha
  .rintro ⟨s',arcs,u6⟩ next2 ⟨g1,g2,g3⟩;dsimp only at g1 g2 g3 |-;refine rd (by omega) (rb ⟨⟨hnm,⟨by simp; omega,fun p hp=>?_⟩,⟨by dsimp only; omega,g3⟩,by dsimp only; omega⟩,g1⟩);rcases List.mem_append.1 hp with hp | hp
   .exact h4 p hp
   .simp only[List.mem_cons,List.not_mem_nil,or_false] at hp;subst hp; show (ByteArray.mk #[121]).size<4000000; decide
include hN in
theorem q115{s:Src}(h:SrcP s){nm:ByteArray}(hnm:nm.size<4000000)(k e:Int):Ret (F_8 N (s,nm,k,e,u)) (fun r=>SmallC r.1.1/\SrcP r.2):=by
 unfold F_8;dsimp only;refine Ret.bind (q12 h 50) ?_;rintro ⟨⟨d1,u1⟩,s1⟩ ⟨_,hs1⟩;dsimp only at hs1 |-;refine Ret.bind (q12 hs1 80) ?_;rintro ⟨⟨d2,u2⟩,s2⟩ ⟨_,hs2⟩;dsimp only at hs2 |-;refine Ret.bind (q12 hs2 9) ?_;rintro ⟨⟨d3,u3⟩,s3⟩ ⟨_,hs3⟩;dsimp only at hs3 |-;refine Ret.bind (q12 hs3 9) ?_;rintro ⟨⟨d4,u4⟩,s4⟩ ⟨_,hs4⟩;dsimp only at hs4 |-;refine Ret.bind (q78 hN hs4 _ _ _ _) ?_;rintro ⟨⟨a5,u5⟩,s5⟩ ⟨ha5,hs5⟩;dsimp only at ha5 hs5 |-;refine Ret.bind (q78 hN hs5 _ _ _ _) ?_;rintro ⟨⟨a6,u6⟩,s6⟩ ⟨ha6,hs6⟩;dsimp only at ha6 hs6 |-;refine Ret.bind (q78 hN hs6 _ _ _ _) ?_;rintro ⟨⟨a7,u7⟩,s7⟩ ⟨ha7,hs7⟩;dsimp only at ha7 hs7 |-;have hp:∀(x y:Int),q188 [((⟨#[100]⟩:ByteArray),(1:Int),x,false,()),((⟨#[99,107]⟩:ByteArray),(1:Int),y,true,()),((⟨#[113]⟩:ByteArray),(2:Int),(0:Int),false,())]:=fun x y=>⟨by simp,fun p hp=>by simp only[List.mem_cons,List.not_mem_nil,or_false] at hp;rcases hp with rfl | rfl | rfl <;> (dsimp only; decide)⟩;refine rf (fun _=>?_) fun _=>?_
 .refine Ret.bind (q78 hN hs7 _ _ _ _) ?_;rintro ⟨⟨a8,u8⟩,s8⟩ ⟨ha8,hs8⟩;dsimp only at ha8 hs8 |-;refine appOk (by simp) (rb ⟨⟨hnm,hp _ _,⟨by simp,fun a ha=>?_⟩,by simp⟩,hs8⟩);simp only[List.mem_append,List.mem_cons,List.not_mem_nil,or_false] at ha;rcases ha with (rfl | rfl | rfl) | rfl <;> assumption
 .refine rb ⟨⟨hnm,hp _ _,⟨by simp,fun a ha=>?_⟩,by simp⟩,hs7⟩;simp only[List.mem_cons,List.not_mem_nil,or_false] at ha;rcases ha with rfl | rfl | rfl <;> assumption
end
set_option maxHeartbeats 2000000
open Go.RowKit
section
variable {N:Nat} (hN:HN N) {u:Unit}
theorem q729(M:Nat):q336 (M+16) [1,0] 1:=fun a b c d e f u v pin hp=>by
 obtain rfl:pin=0:=by omega
 exact ⟨(2,()),by kernel_rfl⟩
theorem q731(M:Nat):q336 (M+16) [0,1] 1:=fun a b c d e f u v pin hp=>by
 obtain rfl:pin=0:=by omega
 exact ⟨(1,()),by kernel_rfl⟩
theorem q710(M:Nat):q336 (M+16) [1,1,1,0] 2:=fun a b c d e f u v pin hp=>by
 rcases (show pin=0\/pin=1 by omega) with rfl | rfl
 .exact ⟨(2,()),by kernel_rfl⟩
 .exact ⟨(2,()),by kernel_rfl⟩
theorem q769(M:Nat):q336 (M+16) [0,1,1,0] 2:=fun a b c d e f u v pin hp=>by
 rcases (show pin=0\/pin=1 by omega) with rfl | rfl
 .exact ⟨(3,()),by kernel_rfl⟩
 .exact ⟨(3,()),by kernel_rfl⟩
theorem q743(M:Nat):q336 (M+16) [0,1,0,1,0,0,1,1] 3:=fun a b c d e f u v pin hp=>by
 rcases (show pin=0\/pin=1\/pin=2 by omega) with rfl | rfl | rfl
 .exact ⟨(1,()),by kernel_rfl⟩
 .exact ⟨(1,()),by kernel_rfl⟩
 .exact ⟨(3,()),by kernel_rfl⟩
include hN in
theorem q597{s:Src}(h:SrcP s):Ret (F_9 N (s,u)) (fun r=>SmallL r.1.1/\SrcP r.2):=by unfold F_9;dsimp only;obtain ⟨M,rfl⟩:∃ M,N=M+16:=⟨N - 16,by omega⟩;refine Ret.bind (q112 hN h (by decide) (.inl ⟨rfl,rfl⟩) (q729 M)) ?_;rintro ⟨⟨c1,u1⟩,s1⟩ ⟨h1,hs1⟩;dsimp only at h1 hs1 |-;refine Ret.bind (q112 hN hs1 (by decide) (.inl ⟨rfl,rfl⟩) (q731 M)) ?_;rintro ⟨⟨c2,u2⟩,s2⟩ ⟨h2,hs2⟩;dsimp only at h2 hs2 |-;refine Ret.bind (q112 hN hs2 (by decide) (.inr (.inl ⟨rfl,rfl⟩)) (q710 M)) ?_;rintro ⟨⟨c3,u3⟩,s3⟩ ⟨h3,hs3⟩;dsimp only at h3 hs3 |-;refine Ret.bind (q112 hN hs3 (by decide) (.inr (.inl ⟨rfl,rfl⟩)) (q769 M)) ?_;rintro ⟨⟨c4,u4⟩,s4⟩ ⟨h4,hs4⟩;dsimp only at h4 hs4 |-;refine Ret.bind (q112 hN hs4 (by decide) (.inr (.inr ⟨rfl,rfl⟩)) (q743 M)) ?_;rintro ⟨⟨c5,u5⟩,s5⟩ ⟨h5,hs5⟩;dsimp only at h5 hs5 |-;refine Ret.bind (q115 hN hs5 (by decide) _ _) ?_;rintro ⟨⟨c6,u6⟩,s6⟩ ⟨h6,hs6⟩;dsimp only at h6 hs6 |-;refine Ret.bind (q115 hN hs6 (by decide) _ _) ?_;rintro ⟨⟨c7,u7⟩,s7⟩ ⟨h7,hs7⟩;dsimp only at h7 hs7 |-;refine Ret.bind (q115 hN hs7 (by decide) _ _) ?_;rintro ⟨⟨c8,u8⟩,s8⟩ ⟨h8,hs8⟩;dsimp only at h8 hs8 |-;refine rb ⟨⟨by simp,fun c hc=>?_⟩,hs8⟩;simp only[List.mem_cons,List.not_mem_nil,or_false] at hc;rcases hc with rfl | rfl | rfl | rfl | rfl | rfl | rfl | rfl <;> assumption
theorem q377(n:Int):(strOf [n]).size=1:=by simp[strOf]
theorem q822(M:Nat){n:Nat}(hn:n<100):Ret (F_10 N (M+3) ((n:Int),u)) (fun r=>r.1.size<=2):=by
 unfold F_10;dsimp only;refine rd (by omega) ?_;refine rf (fun _=>rb (by dsimp only; rw[q377]; omega)) fun h10=>?_;have hd:((n:Int).tdiv 10)=((n / 10:Nat):Int):=rfl;rw[hd,wrapI (n:=((n / 10:Nat):Int)) (by omega) (by omega)];refine Ret.bind (Q:=fun r=>r.1.size<=1) ?_ ?_
 .unfold F_10;dsimp only;refine rd (by omega) (rh (by omega) (rb ?_));dsimp only;rw[q377]; omega
 .rintro ⟨t,u2⟩ ht;dsimp only at ht |-;refine rk (by rw[q377]; unfold limS; omega) (rb ?_);dsimp only;rw[ByteArray.size_append,q377]; omega
def InsQ(x:DInstance):Prop:=x.1.size<100/\1<=x.2.2.1.length/\x.2.2.1.length<=5
def DesQ(d:DDesign):Prop:=(d.1.length<=10/\∀ x∈d.1,InsQ x)/\(3<=d.2.1.length/\d.2.1.length<=20/\∀ s∈d.2.1,s.size<100)/\(1<=d.2.2.1.length/\d.2.2.1.length<=6/\∀ p∈d.2.2.1,p.1.size<100)
theorem q649{d:DDesign}(h:DesQ d):Few d:=⟨by have:=h.1.1; omega,fun x hx=>(h.1.2 x hx).2.2,by have:=h.2.2.2.1; omega⟩
theorem q318{d:DDesign}(h:DesQ d):SmallD d:=
 ⟨⟨by have:=h.1.1; omega,fun x hx=>⟨by have:=(h.1.2 x hx).1; omega,by have:=(h.1.2 x hx).2.2; omega⟩⟩,⟨by have:=h.2.1.2.1; omega,fun s hs=>by have:=h.2.1.2.2 s hs; omega⟩,⟨by have:=h.2.2.2.1; omega,fun p hp=>by have:=h.2.2.2.2 p hp; omega⟩⟩
theorem q378{B:Type}{P:B->Prop}{l:List B}{a:B}(h:∀ x∈l,P x)(ha:P a):∀ x∈l++[a],P x:=fun x hx=>by
 rcases List.mem_append.1 hx with hx | hx
 .exact h x hx
 .simp only[List.mem_cons,List.not_mem_nil,or_false] at hx;subst hx; exact ha
theorem q325{B:Type}{P:B->Prop}{l:List B}{a:B}{i:Nat}(h:∀ x∈l,P x)(ha:P a):∀ x∈l.set i a,P x:=fun x hx=>by
 rcases List.mem_or_eq_of_mem_set hx with hx | rfl
 .exact h x hx
 .exact ha
include hN in
theorem q574{s:Src}(h:SrcP s){most:Int}(hm:2<=most/\most<=10)(wild:Bool):Ret (F_11 N (s,most,wild,u)) (fun r=>DesQ r.1.1/\SrcP r.2):=by
 unfold F_11;dsimp only;refine lenOk (by simp) ?_;rw[wrapI (n:=most - 1) (by omega) (by omega)];refine Ret.bind (q12 h (most - 1)) ?_;rintro ⟨⟨d1,u1⟩,s1⟩ ⟨hd1,hs1⟩;dsimp only at hd1 hs1 |-;rw[wrapI (n:=2+d1) (by omega) (by omega)]
 refine va (I:=fun(s:Int×Src×List DInstance×List ByteArray×Unit)=>(0<=s.1/\s.1+s.2.2.1.length=2+d1)/\SrcP s.2.1/\s.2.2.2.1.length=3+s.2.2.1.length/\(∀ x∈s.2.2.1,InsQ x)/\∀ n∈s.2.2.2.1,n.size<100) (T:=fun s=>s.1.toNat) ?_ N _
  ⟨⟨by dsimp only; omega,by simp⟩,hs1,by simp,by simp,fun n hn=>by simp only[List.nil_append,List.mem_cons,List.not_mem_nil,or_false] at hn;rcases hn with rfl | rfl | rfl <;> decide⟩ (by dsimp only; omega)
 rintro ⟨n,s2,insts,nets,u2⟩ next ⟨⟨hn0,hn1⟩,hs2,hnl,hins,hnets⟩ hnext
 dsimp only at hn0 hn1 hs2 hnl hins hnets |-;refine rf (fun hn=>?_) fun hn=>?_
 .refine Ret.bind (q12 hs2 12) ?_;rintro ⟨⟨c,u3⟩,s3⟩ ⟨hc,hs3⟩;dsimp only at hc hs3 |-;have hcl:c.toNat<[(0:Int),(1:Int),(2:Int),(2:Int),(3:Int),(4:Int),(5:Int),(5:Int),(5:Int),(6:Int),(7:Int),(1:Int)].length:=by simp; omega
  refine rt hc.1 (by omega) (rl hcl ?_);have hce:∀ v∈[(0:Int),(1:Int),(2:Int),(2:Int),(3:Int),(4:Int),(5:Int),(5:Int),(5:Int),(6:Int),(7:Int),(1:Int)],0<=v/\v<=7:=by decide
  have hce:=hce _ (aR hcl);generalize [(0:Int),(1:Int),(2:Int),(2:Int),(3:Int),(4:Int),(5:Int),(5:Int),(5:Int),(6:Int),(7:Int),(1:Int)][c.toNat]=cell at hce |-;obtain ⟨M,hM⟩:∃ M,N=M+3:=⟨N - 3,by omega⟩;have hnum:∀(k:Nat),k<100->Ret (F_10 N N ((k:Int),())) (fun r=>r.1.size<=2):=fun k hk=>by
   have:=q822 (N:=N) (u:=()) M hk
   rwa [<- hM] at this
  refine Ret.bind (hnum insts.length (by omega)) ?_;rintro ⟨nm,u4⟩ hnm;dsimp only at hnm |-;refine rk (by show 1+nm.size<=limS; unfold limS; omega) ?_;have hpl:cell.toNat<[(2:Int),(2:Int),(3:Int),(3:Int),(4:Int),(3:Int),(3:Int),(3:Int)].length:=by simp; omega
  have hpe:∀ v∈[(2:Int),(2:Int),(3:Int),(3:Int),(4:Int),(3:Int),(3:Int),(3:Int)],2<=v/\v<=4:=by decide
  have hpe:=hpe _ (aR hpl);have hpg:[(2:Int),(2:Int),(3:Int),(3:Int),(4:Int),(3:Int),(3:Int),(3:Int)][cell.toNat]?=some [(2:Int),(2:Int),(3:Int),(3:Int),(4:Int),(3:Int),(3:Int),(3:Int)][cell.toNat]:=aW hpl;generalize [(2:Int),(2:Int),(3:Int),(3:Int),(4:Int),(3:Int),(3:Int),(3:Int)][cell.toNat]=p at hpe hpg
  refine va (I:=fun(s:Int×Src×(ByteArray×Int×Unit)×List Int×Unit)=>(0<=s.1/\s.1<=p - 1)/\SrcP s.2.1/\s.2.2.1.1.size<100/\(s.2.2.2.1.length:Int)=s.1) (T:=fun s=>(p - 1 - s.1).toNat) ?_ N _
   ⟨⟨by dsimp only; omega,by dsimp only; omega⟩,hs3,by dsimp only; rw[ByteArray.size_append]; show 1+nm.size<100; omega,by simp⟩ (by dsimp only; omega)
  rintro ⟨pin,s4,⟨x1,x2,u5⟩,xn,u6⟩ next2 ⟨⟨hp0,hp1⟩,hs4,hx1,hxn⟩ hnext2;dsimp only at hp0 hp1 hs4 hx1 hxn |-;refine rt hce.1 (by simp; omega) (ra hpg ?_);rw[wrapI (n:=p - 1) (by omega) (by omega)];have leaf:∀{v:Int}{s5:Src}{y:Option ((DDesign×Unit)×Src)},SrcP s5->pin<p - 1->y=next2 (wq (pin+1),s5,(x1,x2,u5),(([]++xn)++[v]),())->Ret (bif decide (([]++xn).length<=lim) then (bif decide ((([]++xn)++[v]).length<=lim) then y else none) else none) (fun r=>DesQ r.1.1/\SrcP r.2):=fun {v s5 y} hs5 hlt hy=>by refine lenOk (by simp; omega) (appOk (by simp; omega) ?_);rw[hy,wrapI (n:=pin+1) (by omega) (by omega)];exact hnext2 _ ⟨⟨by dsimp only; omega,by dsimp only; omega⟩,hs5,hx1,by simp; omega⟩ (by dsimp only; omega)
  refine rf (fun hlt=>?_) fun hge=>?_
  .refine Ret.bind (q12 hs4 _) ?_;rintro ⟨⟨a1,u7⟩,s5⟩ ⟨_,hs5⟩;dsimp only at hs5 |-;refine Ret.bind (q12 hs5 3) ?_;rintro ⟨⟨a2,u8⟩,s6⟩ ⟨_,hs6⟩;dsimp only at hs6 |-;refine rf (fun _=>rf (fun _=>rf (fun _=>leaf hs6 hlt rfl) fun _=>leaf hs6 hlt rfl) fun _=>leaf hs6 hlt rfl) fun _=>rf (fun _=>rf (fun _=>leaf hs6 hlt rfl) fun _=>leaf hs6 hlt rfl) fun _=>leaf hs6 hlt rfl
  .refine lenOk (by simp; omega) (appOk (by simp; omega) ?_);refine Ret.bind (hnum nets.length (by omega)) ?_;rintro ⟨nm2,u7⟩ hnm2;dsimp only at hnm2 |-;refine rk (by show 1+nm2.size<=limS; unfold limS; omega) ?_;refine appOk (by omega) (appOk (by omega) ?_);rw[wrapI (n:=n - 1) (by omega) (by omega)];refine hnext _ ⟨⟨by dsimp only; omega,by simp; omega⟩,hs4,by simp; omega,q378 hins ⟨hx1,by simp,by simp; omega⟩,q378 hnets ?_⟩ (by dsimp only; omega);rw[ByteArray.size_append];show 1+nm2.size<100;omega
 .have hnz:n=0:=by omega
  refine rq insts.length (fun i (s:Src×List DInstance×Unit)=>SrcP s.1/\s.2.1.length=insts.length/\∀ x∈s.2.1,InsQ x) (by omega) (by omega) ⟨hs2,rfl,hins⟩ ?_ ?_
  .rintro i ⟨s3,ins,u3⟩ next2 hi ⟨hs3,hl,hq⟩ hnext2;dsimp only at hs3 hl hq hnext2 |-;have hi':i<ins.length:=by omega
   have e0:((i:Int)).toNat=i:=by omega
   have leaf:∀{s5:Src}{y:Src->List DInstance->Option ((DDesign×Unit)×Src)},SrcP s5->(∀ s6 l,y s6 l=next2 (wq ((i:Int)+1),s6,l,()))->Ret (bif inI (i:Int) ins.length then obind (ins[(i:Int).toNat]?) fun _=>obind (F_1 N (s5,(wq ((nets.length:Int) - (1:Int))),())) fun r51=>obind (ins[(i:Int).toNat]?) fun e52=>
    (bif inI (0:Int) e52.2.2.1.length then obind (ins[(i:Int).toNat]?) fun e53=>obind (e53.2.2.1[(0:Int).toNat]?) fun _=>y r51.2 (ins.set (i:Int).toNat (e53.1,e53.2.1,(e53.2.2.1.set ((0:Int).toNat) (wq ((1:Int)+r51.1.1))),())) else none) else none) (fun r=>DesQ r.1.1/\SrcP r.2):=fun {s5 y} hs5 hy=>by
    have hx:=hq _ (aR hi');rw[e0];refine ri hi' (rl hi' ?_);refine Ret.bind (q12 hs5 _) ?_;rintro ⟨⟨a1,u7⟩,s6⟩ ⟨_,hs6⟩;dsimp only at hs6 |-;refine rl hi' (rt (by omega) (by have:=hx.2.1; omega) (rl hi' (rl (by have:=hx.2.1; show 0<_; omega) ?_)));rw[hy];exact hnext2 _ ⟨hs6,by simpa using hl,q325 hq ⟨hx.1,by simpa using hx.2.1,by simpa using hx.2.2⟩⟩
   refine rh (by omega) ?_;refine Ret.bind (q12 hs3 4) ?_;rintro ⟨⟨a1,u7⟩,s5⟩ ⟨_,hs5⟩;dsimp only at hs5 |-;refine rf (fun _=>?_) fun _=>hnext2 _ ⟨hs5,hl,hq⟩;refine ri hi' ?_;refine ra (show ins[(i:Int).toNat]?=some ins[i] by rw[e0]; exact aW hi') ?_;refine rf (fun _=>leaf (y:=fun s6 l=>next2 (wq ((i:Int)+1),s6,l,())) hs5 fun _ _=>rfl) fun _=>?_;refine ri hi' ?_;refine ra (show ins[(i:Int).toNat]?=some ins[i] by rw[e0]; exact aW hi') ?_;refine rf (fun _=>leaf (y:=fun s6 l=>next2 (wq ((i:Int)+1),s6,l,())) hs5 fun _ _=>rfl) fun _=>?_;exact rx (fun _=>leaf (y:=fun s6 l=>next2 (wq ((i:Int)+1),s6,l,())) hs5 fun _ _=>rfl) fun _=>hnext2 _ ⟨hs5,hl,hq⟩
  .rintro ⟨s3,ins,u3⟩ next2 ⟨hs3,hl,hq⟩;dsimp only at hs3 hl hq |-;refine rd (by omega) ?_;refine lenOk (by simp) (appOk (by simp) ?_);have hpo:∀(x:Int),∀ p∈([]++[((⟨#[99,107]⟩:ByteArray),(1:Int),(0:Int),()),((⟨#[97]⟩:ByteArray),(1:Int),(1:Int),()),((⟨#[98]⟩:ByteArray),(1:Int),(2:Int),())])++[((⟨#[121]⟩:ByteArray),(2:Int),x,())],p.1.size<100:=fun x p hp=>by simp only[List.nil_append,List.mem_append,List.mem_cons,List.not_mem_nil,or_false] at hp;rcases hp with (rfl | rfl | rfl) | rfl <;> (dsimp only; decide)
   refine Ret.bind (q12 hs3 2) ?_;rintro ⟨⟨a1,u7⟩,s5⟩ ⟨_,hs5⟩;dsimp only at hs5 |-;refine rf (fun _=>?_) fun _=>?_
   .refine Ret.bind (q12 hs5 _) ?_;rintro ⟨⟨a2,u8⟩,s6⟩ ⟨_,hs6⟩;dsimp only at hs6 |-;refine appOk (by simp) (rb ⟨⟨⟨by dsimp only; omega,hq⟩,⟨by dsimp only; omega,by dsimp only; omega,hnets⟩,⟨by simp,by simp,q378 (hpo _) (by show (ByteArray.mk #[122]).size<100; decide)⟩⟩,hs6⟩)
   .exact rb ⟨⟨⟨by dsimp only; omega,hq⟩,⟨by dsimp only; omega,by dsimp only; omega,hnets⟩,⟨by simp,by simp,hpo _⟩⟩,hs5⟩
end
section
variable {N:Nat} (hN:HN N) {u:Unit}
theorem q761{d:DDesign}(h:Few d)(k:Int):(sinksL d k).length<=78:=by rw[q478];unfold q215;exact Nat.le_trans List.countP_le_length (q136 h)
theorem q698{M:Type}{R:M->Prop}{n:Nat}{x:Option M}(h:n<4000000)(h1:Ret x R):Ret (bif (decide (0<=(n:Int)) && (decide ((n:Int)<=(lim:Int)) && decide ((n:Int)=(n:Int)))) then x else none) R:=
 rn ⟨by omega,by unfold lim; omega,rfl⟩ h1
def WirQ(w:DWire):Prop:=(1<=w.1.length/\w.1.length<=8)/\(1<=w.2.1.length/\w.2.1.length<=8)/\(1<=w.2.2.1.length/\w.2.2.1.length<=8)/\w.2.2.2.1.length<=200
theorem q335{w:DWire}(h:WirQ w):SmallW w:=⟨by have:=h.1.2; omega,by have:=h.2.1.2; omega,by have:=h.2.2.1.2; omega,by have:=h.2.2.2; omega⟩
theorem q505(l:List Int)(hl:l.length<4000000):F_15 N (l,u)=some (l,()):=by refine Ret.eq ?_;unfold F_15;dsimp only;exact lenOk (by simpa using hl) (rb (by simp))
include hN in
theorem q369{s:Src}(h:SrcP s){k:Nat}(hk:k<=100):Ret (F_16 N (s,(k:Int),u)) (fun r=>WirQ r.1.1/\SrcP r.2):=by
 unfold F_16;dsimp only;refine Ret.bind (q12 h 6) ?_;rintro ⟨⟨d1,u1⟩,s1⟩ ⟨_,hs1⟩;dsimp only at hs1 |-;refine Ret.bind (Q:=fun r=>r.1=([-1],[0],[d1],List.replicate k 0,())) ?_ ?_
 .unfold F_14;dsimp only;refine q698 (by omega) (rb ?_);simp
 rintro ⟨w,u2⟩ rfl;dsimp only;refine Ret.bind (q12 hs1 4) ?_;rintro ⟨⟨d3,u3⟩,s3⟩ ⟨hd3,hs3⟩;dsimp only at hd3 hs3 |-
 refine va (I:=fun(s:Int×Src×List Int×List Int×List Int×Unit×Unit)=>(0<=s.1/\s.1+s.2.2.1.length=1+d3)/\SrcP s.2.1/\1<=s.2.2.1.length/\s.2.2.2.1.length=s.2.2.1.length/\s.2.2.2.2.1.length=s.2.2.1.length) (T:=fun s=>s.1.toNat) ?_ N _
  ⟨⟨by dsimp only; omega,by simp; omega⟩,hs3,by simp,by simp,by simp⟩ (by dsimp only; omega)
 rintro ⟨n,s4,pa,re,ca,u4,u5⟩ next ⟨⟨hn0,hn1⟩,hs4,h1,h2,h3⟩ hnext
 dsimp only at hn0 hn1 hs4 h1 h2 h3 |-;refine rf (fun hn=>?_) fun hn=>?_
 .refine ra (q505 pa (by omega)) ?_;refine Ret.bind (q12 hs4 _) ?_;rintro ⟨⟨a1,u7⟩,s5⟩ ⟨_,hs5⟩;dsimp only at hs5 |-;refine appOk (by omega) (ra (q505 re (by omega)) ?_);refine Ret.bind (q12 hs5 _) ?_;rintro ⟨⟨a2,u8⟩,s6⟩ ⟨_,hs6⟩;dsimp only at hs6 |-;refine appOk (by omega) (ra (q505 ca (by omega)) ?_);refine Ret.bind (q12 hs6 _) ?_;rintro ⟨⟨a3,u9⟩,s7⟩ ⟨_,hs7⟩;dsimp only at hs7 |-;refine appOk (by omega) ?_;rw[wrapI (n:=n - 1) (by omega) (by omega)];exact hnext _ ⟨⟨by dsimp only; omega,by simp; omega⟩,hs7,by simp,by simpa using h2,by simpa using h3⟩ (by dsimp only; omega)
 .refine rq k (fun i (s:Src×List Int×Unit)=>SrcP s.1/\s.2.1.length=k) (by omega) (by omega) ⟨hs4,by simp⟩ ?_ ?_
  .rintro i ⟨s5,sk,u6⟩ next2 hi ⟨hs5,hl⟩ hnext2;dsimp only at hs5 hl hnext2 |-;refine rh (by omega) ?_;refine Ret.bind (q12 hs5 _) ?_;rintro ⟨⟨a1,u7⟩,s6⟩ ⟨_,hs6⟩;dsimp only at hs6 |-;refine ri (by omega) (rl (by omega) ?_);exact hnext2 _ ⟨hs6,by simpa using hl⟩
  .rintro ⟨s5,sk,u6⟩ next2 ⟨hs5,hl⟩;dsimp only at hs5 hl |-;exact rd (by omega) (rb ⟨⟨⟨h1,by dsimp only; omega⟩,⟨by dsimp only; omega,by dsimp only; omega⟩,⟨by dsimp only; omega,by dsimp only; omega⟩,by dsimp only; omega⟩,hs5⟩)
def BlkQ(b:DBlock):Prop:=SmallL b.1/\DesQ b.2.1/\(3<=b.2.2.1.length/\b.2.2.1.length<=20/\∀ w∈b.2.2.1,WirQ w)
theorem q476{b:DBlock}(h:BlkQ b):SmallB b:=⟨h.1,q318 h.2.1,by have:=h.2.2.2.1; omega,fun w hw=>q335 (h.2.2.2.2 w hw)⟩
include hN in
theorem q214{s:Src}(h:SrcP s){most:Int}(hm:2<=most/\most<=10)(wild:Bool):Ret (F_17 N (s,most,wild,u)) (fun r=>BlkQ r.1.1/\SrcP r.2):=by
 unfold F_17;dsimp only;refine Ret.bind (q597 hN h) ?_;rintro ⟨⟨l,u1⟩,s1⟩ ⟨hl,hs1⟩;dsimp only at hl hs1 |-;refine Ret.bind (q574 hN hs1 hm wild) ?_;rintro ⟨⟨d,u2⟩,s2⟩ ⟨hd,hs2⟩;dsimp only at hd hs2 |-;have hnl:=hd.2.1.2.1;have hn3:=hd.2.1.1;refine rq d.2.1.length (fun i (s:Src×List DWire×Unit)=>SrcP s.1/\s.2.1.length=i/\∀ w∈s.2.1,WirQ w) (by omega) (by omega) ⟨hs2,rfl,by simp⟩ ?_ ?_
 .rintro i ⟨s3,ws,u3⟩ next hi ⟨hs3,hwl,hws⟩ hnext
  dsimp only at hs3 hwl hws hnext |-;refine rh (by omega) ?_;refine ra (q293 hN (q649 hd) (i:Int)) ?_;dsimp only;refine Ret.bind (q369 hN hs3 (by have:=q761 (q649 hd) (i:Int); omega)) ?_;rintro ⟨⟨w,u4⟩,s4⟩ ⟨hw,hs4⟩;dsimp only at hw hs4 |-;exact appOk (by omega) (hnext _ ⟨hs4,by simp; omega,q378 hws hw⟩)
 .rintro ⟨s3,ws,u3⟩ next ⟨hs3,hwl,hws⟩
  dsimp only at hs3 hwl hws |-;exact rd (by omega) (rb ⟨⟨hl,hd,by dsimp only; omega,by dsimp only; omega,hws⟩,hs3⟩)
include hN in
theorem q415{s:Src}(h:SrcP s):Ret (F_18 N (s,u)) (fun r=>SmallB r.1.1/\SrcP r.2):=by
 unfold F_18;dsimp only;refine Ret.bind (q12 h 3) ?_;rintro ⟨⟨d1,u1⟩,s1⟩ ⟨_,hs1⟩;dsimp only at hs1 |-;refine Ret.bind (q214 hN hs1 (by omega) _) ?_;rintro ⟨⟨⟨l,d,ws,u9⟩,u2⟩,s2⟩ ⟨⟨hl,hd,hw3,hw20,hws⟩,hs2⟩;dsimp only at hl hd hw3 hw20 hws hs2 |-;refine Ret.bind (q12 hs2 _) ?_;rintro ⟨⟨k,u3⟩,s3⟩ ⟨hk,hs3⟩;dsimp only at hk hs3 |-;refine Ret.bind (q12 hs3 20) ?_;rintro ⟨⟨d4,u4⟩,s4⟩ ⟨_,hs4⟩;dsimp only at hs4 |-;have hkl:k.toNat<ws.length:=by omega
 have hkg:ws[k.toNat]?=some ws[k.toNat]:=aW hkl;have hwk:=hws _ (aR hkl);have mk:∀ ws2:List DWire,ws2.length<=20->(∀ w∈ws2,SmallW w)->SmallB (l,d,ws2,u9):=fun ws2 h1 h2=>⟨hl,q318 hd,by dsimp only; omega,h2⟩;have hsm:∀ w∈ws,SmallW w:=fun w hw=>q335 (hws w hw);generalize ws[k.toNat]=wk at hkg hwk;have hwks:=q335 hwk;refine rf (fun _=>?_) fun _=>rf (fun _=>?_) fun _=>rf (fun _=>?_) fun _=>rf (fun _=>?_) fun _=>rf (fun _=>?_) fun _=>rf (fun _=>?_) fun _=>?_
 .refine rr ⟨by omega,by omega,by omega⟩ (rb ⟨mk _ (by simp; omega) fun w hw=>hsm w (List.mem_of_mem_take (List.mem_of_mem_drop hw)),hs4⟩)
 .refine rt hk.1 (by omega) (ra hkg (ra hkg ?_));refine ra (q505 wk.2.2.2.1 (by have:=hwk.2.2.2; omega)) ?_;dsimp only;refine appOk (by have:=hwk.2.2.2; omega) ?_;refine rt hk.1 (by omega) (ra hkg (rb ⟨mk _ (by simpa using hw20) (q325 hsm ⟨hwks.1,hwks.2.1,hwks.2.2.1,by have:=hwk.2.2.2; simp; omega⟩),hs4⟩))
 .refine rt hk.1 (by omega) (ra hkg (ra hkg ?_));refine rt (by omega) (by have:=hwk.2.1.1; omega) (ra hkg (rl (show (0:Int).toNat<wk.2.1.length by have:=hwk.2.1.1; show 0<_; omega) ?_));exact rb ⟨mk _ (by simpa using hw20) (q325 hsm ⟨hwks.1,by simpa using hwks.2.1,hwks.2.2.1,hwks.2.2.2⟩),hs4⟩
 .refine rt hk.1 (by omega) (ra hkg ?_);refine Ret.bind (q12 hs4 3) ?_;rintro ⟨⟨d5,u5⟩,s5⟩ ⟨hd5,hs5⟩;dsimp only at hd5 hs5 |-;have h3:d5.toNat<[((-1):Int),(500:Int),(501:Int)].length:=by simp; omega
  refine rt hd5.1 (by simp; omega) (rl h3 (ra hkg ?_));refine rt (by omega) (by have:=hwk.2.2.1.1; omega) (ra hkg (rl (show (0:Int).toNat<wk.2.2.1.length by have:=hwk.2.2.1.1; show 0<_; omega) ?_));exact rb ⟨mk _ (by simpa using hw20) (q325 hsm ⟨hwks.1,hwks.2.1,by simpa using hwks.2.2.1,hwks.2.2.2⟩),hs5⟩
 .refine rt hk.1 (by omega) (ra hkg ?_);refine rt hk.1 (by omega) (ra hkg (ra hkg ?_));refine Ret.bind (q12 hs4 5) ?_;rintro ⟨⟨d5,u5⟩,s5⟩ ⟨hd5,hs5⟩;dsimp only at hd5 hs5 |-;refine ra hkg ?_;have h1:=hwk.1;rw[wrapI (n:=(wk.1.length:Int) - 1) (by omega) (by omega)];refine rt (by omega) (by omega) (ra hkg (rl (show ((wk.1.length:Int) - 1).toNat<wk.1.length by omega) ?_));exact rb ⟨mk _ (by simpa using hw20) (q325 hsm ⟨by simpa using hwks.1,hwks.2.1,hwks.2.2.1,hwks.2.2.2⟩),hs5⟩
 .have hp:=hd.2.2;refine rt (by omega) (by have:=hp.1; omega) (rl (show (0:Int).toNat<d.2.2.1.length by have:=hp.1; show 0<_; omega) ?_);have hds:=q318 hd;refine rb ⟨⟨hl,⟨hds.1,hds.2.1,by simpa using hds.2.2.1,q325 hds.2.2.2 ?_⟩,by dsimp only; omega,hsm⟩,hs4⟩;have h5:=hds.2.2.2 _ (aR (show (0:Int).toNat<d.2.2.1.length by have:=hp.1; show 0<_; omega));exact h5
 .exact rb ⟨mk _ hw20 hsm,hs4⟩
end
section
variable {N:Nat} (hN:HN N) {u:Unit}
theorem seedOk{seed e:Int}(h:0<=seed/\seed<2147483647)(he:BtwP 0 255 e):0<=(wq ((wq (seed * (31:Int)))+(wq e))).tmod (2147483647:Int)/\(wq ((wq (seed * (31:Int)))+(wq e))).tmod (2147483647:Int)<2147483647:=by unfold BtwP at he;rw[wrapI (n:=seed * 31) (by omega) (by omega),wrapI (n:=e) (by omega) (by omega),wrapI (n:=seed * 31+e) (by omega) (by omega)];exact tmodB (by omega) (by omega)
include hN in
theorem Ret.srcA{M:Type}{R:M->Prop}{code:List Int}(hl:code.length<4000000)(hc:∀ b∈code,BtwP 0 255 b){K:Int×Src×Unit->Option M}(hK:∀ s,SrcP s.2.1->Ret (K s) R):
 Ret (fixN N (fun(next:(Int×Src×Unit)->Option M)(s:Int×Src×Unit)=>(bif (decide (s.1<(code.length:Int))) then (bif (decide (s.1<(64:Int))) then obind (atI code s.1) fun e=>next ((wq (s.1+(1:Int))),(s.2.1.1,s.2.1.2.1,((wq ((wq (s.2.1.2.2.1 * (31:Int)))+(wq e))).tmod (2147483647:Int)),()),()) else K s) else K s)) ((0:Int),(code,(0:Int),(12345:Int),()),())) R:=by
 refine va (I:=fun(s:Int×Src×Unit)=>(0<=s.1/\s.1<=64)/\SrcP s.2.1) (T:=fun s=>(64 - s.1).toNat) ?_ N _
  ⟨⟨by dsimp only; omega,by dsimp only; omega⟩,⟨⟨by dsimp only; omega,hl⟩,⟨by dsimp only; omega,by dsimp only; omega⟩,hc⟩⟩ (by dsimp only; omega)
 rintro ⟨i,⟨cd,at0,seed,u1⟩,u2⟩ next ⟨⟨hi0,hi64⟩,hs⟩ hnext
 dsimp only at hi0 hi64 |-;refine rf (fun h1=>rf (fun h2=>?_) fun h2=>hK _ hs) fun h1=>hK _ hs;have hlt:i.toNat<code.length:=by omega
 refine vd hi0 hlt ?_;rw[wrapI (n:=i+1) (by omega) (by omega)];obtain ⟨g1,g2,g4⟩:=hs;exact hnext _ ⟨⟨by dsimp only; omega,by dsimp only; omega⟩,g1,seedOk g2 (hc _ (aR hlt)),g4⟩ (by dsimp only; omega)
include hN in
theorem Ret.srcB{M:Type}{R:M->Prop}{code:List Int}(hl:code.length<4000000)(hc:∀ b∈code,BtwP 0 255 b){K:Int×(Int×Int×Unit)×Unit->Option M}(hK:∀ s,SrcP (code,s.2.1)->Ret (K s) R):
 Ret (fixN N (fun(next:(Int×(Int×Int×Unit)×Unit)->Option M)(s:Int×(Int×Int×Unit)×Unit)=>(bif (decide (s.1<(code.length:Int))) then (bif (decide (s.1<(64:Int))) then (bif inI s.1 code.length then obind (code[s.1.toNat]?) fun e=>next ((wq (s.1+(1:Int))),(s.2.1.1,((wq ((wq (s.2.1.2.1 * (31:Int)))+(wq e))).tmod (2147483647:Int)),()),()) else none) else K s) else K s)) ((0:Int),((0:Int),(12345:Int),()),())) R:=by
 refine va (I:=fun(s:Int×(Int×Int×Unit)×Unit)=>(0<=s.1/\s.1<=64)/\SrcP (code,s.2.1)) (T:=fun s=>(64 - s.1).toNat) ?_ N _
  ⟨⟨by dsimp only; omega,by dsimp only; omega⟩,⟨⟨by dsimp only; omega,hl⟩,⟨by dsimp only; omega,by dsimp only; omega⟩,hc⟩⟩ (by dsimp only; omega)
 rintro ⟨i,⟨at0,seed,u1⟩,u2⟩ next ⟨⟨hi0,hi64⟩,hs⟩ hnext
 dsimp only at hi0 hi64 |-;refine rf (fun h1=>rf (fun h2=>?_) fun h2=>hK _ hs) fun h1=>hK _ hs;have hlt:i.toNat<code.length:=by omega
 refine rt hi0 (by omega) (rl hlt ?_);rw[wrapI (n:=i+1) (by omega) (by omega)];obtain ⟨g1,g2,g4⟩:=hs;exact hnext _ ⟨⟨by dsimp only; omega,by dsimp only; omega⟩,g1,seedOk g2 (hc _ (aR hlt)),g4⟩ (by dsimp only; omega)
include hN in
theorem q596{s:Src}(h:SrcP s):Ret (F_19 N (s,u)) (fun r=>SmallB r.1.1/\SrcP r.2):=by
 unfold F_19;dsimp only;refine Ret.bind (q12 h 14) ?_;rintro ⟨⟨d1,u1⟩,s1⟩ ⟨_,hs1⟩;dsimp only at hs1 |-;refine rf (fun _=>?_) fun _=>rf (fun _=>?_) fun _=>?_
 .refine Ret.bind (q415 hN hs1) ?_;rintro ⟨⟨b,u2⟩,s2⟩ hb;exact rb hb
 .refine Ret.bind (q214 hN hs1 (by omega) _) ?_;rintro ⟨⟨b,u2⟩,s2⟩ ⟨hb,hs2⟩;exact rb ⟨q476 hb,hs2⟩
 .refine Ret.bind (q12 hs1 8) ?_;rintro ⟨⟨d4,u4⟩,s4⟩ ⟨hd4,hs4⟩;dsimp only at hd4 hs4 |-;rw[wrapI (n:=2+d4) (by omega) (by omega)];refine Ret.bind (q214 hN hs4 (by omega) _) ?_;rintro ⟨⟨b,u5⟩,s5⟩ ⟨hb,hs5⟩;exact rb ⟨q476 hb,hs5⟩
theorem q140{s:Src}(h:SrcP s)(b:DBlock):Ret (F_20 N (s,b,u)) (fun r=>SrcP r.2):=by
 unfold F_20;dsimp only;refine Ret.bind (q12 h 16) ?_;rintro ⟨⟨d1,u1⟩,s1⟩ ⟨_,hs1⟩;dsimp only at hs1 |-;refine rf (fun _=>?_) fun _=>?_
 .refine Ret.bind (q12 hs1 2) ?_;rintro ⟨⟨d2,u2⟩,s2⟩ ⟨hd2,hs2⟩;dsimp only at hd2 hs2 |-;refine rt hd2.1 (by simp; omega) (rl (by simp; omega) (rb hs2))
 .refine Ret.bind (q12 hs1 _) ?_;rintro ⟨⟨d2,u2⟩,s2⟩ ⟨_,hs2⟩;exact rb hs2
include hN in
theorem q429{code:List Int}(hl:code.length<=5000)(hc:∀ b∈code,BtwP 0 255 b):Ret (F_21 N (code,u)) (fun r=>SmallB r.1):=by unfold F_21;dsimp only;refine Ret.srcA hN (by omega) hc fun s hs=>?_;refine Ret.bind (q596 hN (u:=s.2.2) hs) ?_;rintro ⟨⟨b,u3⟩,s3⟩ ⟨hb,hs3⟩;dsimp only at hb hs3 |-;refine rf (fun _=>rb hb) fun _=>?_;refine Ret.bind (q140 hs3 b) ?_;rintro ⟨r,s4⟩ _;exact rb hb
theorem q462{b:DBlock}(hb:SmallB b):(srcAns b).1.length<4000000:=by
 rcases q221 b with ⟨hB,_,e⟩ | ⟨_,_,e⟩ | ⟨_,e⟩ <;> rw[e]
 .have h1:=q182 b b.2.1.2.1.length;have h2:=(q20 hB).2;show (srcOf b).length<_;unfold srcOf;omega
 .simp
 .simp
theorem q585{k:Int}(hk:BtwP 0 255 k){code:List Int}(hc:∀ b∈code,BtwP 0 255 b):∀ b∈[k]++code,BtwP 0 255 b:=fun b hb=>by
 rcases List.mem_append.1 hb with h | h
 .simp only[List.mem_cons,List.not_mem_nil,or_false] at h;subst h; exact hk
 .exact hc b h
include hN in
theorem q397{code:List Int}(hl:code.length<=4096)(hc:∀ b∈code,BtwP 0 255 b):Ret (F_48 N (code,u)) (fun r=>SmallB r.1):=by
 unfold F_48;dsimp only;refine Ret.bind (q429 (u:=u) hN (by omega) hc) ?_;rintro ⟨b,net,u1⟩ hb;dsimp only at hb |-;refine lenOk (by simp; omega) (Ret.srcB hN (by simp; omega) (q585 ⟨by decide,by decide⟩ hc) fun s hs=>?_);refine rf (fun _=>rb hb) fun _=>?_;refine ra (q131 hN hb _) ?_;have hsl:=q462 hb;generalize srcAns b=sa at hsl;obtain ⟨sl,sc,u2⟩:=sa;dsimp only at hsl |-;refine rf (fun _=>rf (fun h0=>?_) fun _=>?_) fun _=>?_
 .refine Ret.bind (q12 hs 3) ?_;rintro ⟨⟨d1,u3⟩,s3⟩ ⟨_,hs3⟩;dsimp only at hs3 |-;refine rf (fun _=>?_) fun _=>?_
  .refine Ret.bind (q12 hs3 _) ?_;rintro ⟨⟨d2,u4⟩,s4⟩ ⟨hd2,hs4⟩;dsimp only at hd2 hs4 |-;exact rt hd2.1 (by omega) (rl (by omega) (rb hb))
  .refine Ret.bind (q140 hs3 b) ?_;rintro ⟨r,s4⟩ _;exact rb hb
 all_goals
  refine Ret.bind (q140 hs b) ?_;rintro ⟨r,s4⟩ _;exact rb hb
end
section
variable {N:Nat} (hM:1000000000000<=N) {u:Unit}
include hM
theorem q367{s:Src}(h:SrcP s){b:DBlock}(hb:SmallB b):Ret (F_52 N (s,b,u)) (fun r=>r.1.1.length<4000000):=by
 have hN:4000000<=N:=by omega
 unfold F_52;dsimp only;refine ra (q131 hN hb _) ?_;have hsl:=q462 hb;generalize srcAns b=sa at hsl;obtain ⟨sl,sc,u2⟩:=sa;dsimp only at hsl |-
 refine va (I:=fun(s:Int×Src×List AT×Unit)=>∃ i:Nat,s.1=(i:Int)/\i<=sl.length/\s.2.2.1.length=i/\SrcP s.2.1) (T:=fun s=>sl.length - s.1.toNat) ?_ N _
  ⟨0,rfl,by omega,rfl,h⟩ (by dsimp only; omega)
 rintro ⟨i0,s1,l,u1⟩ next ⟨i,e1,hi,e2,hs⟩ hnext
 dsimp only at e1 e2 hs;subst e1;dsimp only
 have fin:∀ s1:Src,SrcP s1->Ret (bif (decide ((l.length:Int)=(0:Int))) then some ((l,u1),s1) else
  obind (F_1 N (s1,(16:Int),())) fun r16=>(bif (!decide (r16.1.1=(0:Int))) then some ((l,u1),r16.2) else
  obind (F_1 N (r16.2,(4:Int),())) fun r17=>(bif (decide (r17.1.1=(0:Int))) then
   (bif ((decide (0<=(1:Int)) && decide ((1:Int)<=(l.length:Int))) && decide ((l.length:Int)<=(l.length:Int))) then some ((((l.take (l.length:Int).toNat).drop (1:Int).toNat),()),r17.2) else none)
  else (bif (decide (r17.1.1=(1:Int))) then (bif inI (0:Int) l.length then obind (l[(0:Int).toNat]?) fun e18=>some (((l.set ((0:Int).toNat) (((2:Int),(4:Int),()),e18.2)),()),r17.2) else none)
  else (bif (decide (r17.1.1=(2:Int))) then (bif inI (0:Int) l.length then obind (l[(0:Int).toNat]?) fun e19=>some (((l.set ((0:Int).toNat) (((1:Int),(11:Int),()),e19.2)),()),r17.2) else none)
  else obind (F_1 N (r17.2,(2:Int),())) fun r20=>(bif inI (0:Int) l.length then obind (l[(0:Int).toNat]?) fun e21=>some (((l.set ((0:Int).toNat) (e21.1,(wq ((wq ((1002:Int) * r20.1.1)) - (1:Int))),())),()),r20.2) else none)))))) (fun r=>r.1.1.length<4000000):=by
  intro s1 hs;refine rf (fun _=>rb (by dsimp only; omega)) fun h0=>?_;have hl0:0<l.length:=by omega
  refine Ret.bind (q12 hs 16) ?_;rintro ⟨⟨d1,u3⟩,s3⟩ ⟨_,hs3⟩;dsimp only at hs3 |-;refine rm (fun _=>rb (by dsimp only; omega)) fun _=>?_;refine Ret.bind (q12 hs3 4) ?_;rintro ⟨⟨d2,u4⟩,s4⟩ ⟨_,hs4⟩;dsimp only at hs4 |-;refine rf (fun _=>?_) fun _=>rf (fun _=>?_) fun _=>rf (fun _=>?_) fun _=>?_
  .rw[show (decide (0<=(1:Int)) && decide ((1:Int)<=(l.length:Int)) && decide ((l.length:Int)<=(l.length:Int)))=true by simp; omega];exact rb (by simp; omega)
  .exact rt (by omega) (by omega) (rl (show (0:Int).toNat<l.length by simpa using hl0) (rb (by simp; omega)))
  .exact rt (by omega) (by omega) (rl (show (0:Int).toNat<l.length by simpa using hl0) (rb (by simp; omega)))
  .refine Ret.bind (q12 hs4 2) ?_;rintro ⟨⟨d3,u5⟩,s5⟩ ⟨_,hs5⟩;dsimp only at hs5 |-;exact rt (by omega) (by omega) (rl (show (0:Int).toNat<l.length by simpa using hl0) (rb (by simp; omega)))
 refine rf (fun hlt=>rf (fun h0=>?_) fun h0=>?_) fun hlt=>?_
 .refine Ret.bind (q12 hs 6) ?_;rintro ⟨⟨d1,u3⟩,s3⟩ ⟨hd1,hs3⟩;dsimp only at hd1 hs3 |-;rw[wrapI (n:=1+d1) (by omega) (by omega),wrapI (n:=1+d1+1) (by omega) (by omega)];refine Ret.bind (q12 hs3 _) ?_;rintro ⟨⟨d2,u4⟩,s4⟩ ⟨hd2,hs4⟩;dsimp only at hd2 hs4 |-;refine ra (q386 hM (by omega) (by omega) _) ?_;refine Ret.bind (q12 hs4 2) ?_;rintro ⟨⟨d3,u5⟩,s5⟩ ⟨_,hs5⟩;dsimp only at hs5 |-;rw[wrapI (n:=(i:Int)+1) (by omega) (by omega)];refine rf (fun _=>?_) fun _=>?_
  .refine Ret.bind (q12 hs5 60) ?_;rintro ⟨⟨d4,u6⟩,s6⟩ ⟨_,hs6⟩;exact appOk (by omega) (hnext _ ⟨i+1,by simp,by omega,by simp[e2],hs6⟩ (by dsimp only; omega))
  .refine Ret.bind (q12 hs5 60) ?_;rintro ⟨⟨d4,u6⟩,s6⟩ ⟨_,hs6⟩;exact appOk (by omega) (hnext _ ⟨i+1,by simp,by omega,by simp[e2],hs6⟩ (by dsimp only; omega))
 .exact fin s1 hs
 .exact fin s1 hs
theorem q205{code:List Int}(hl:code.length<=4096)(hc:∀ b∈code,BtwP 0 255 b):Ret (F_53 N (code,u)) (fun r=>SmallB r.1/\r.2.1.length<4000000):=by
 have hN:4000000<=N:=by omega
 unfold F_53;refine Ret.bind (q397 (u:=u) hN hl hc) ?_;rintro ⟨b,net,src,u1⟩ hb;dsimp only at hb |-;refine lenOk (by simp; omega) (Ret.srcB hN (by simp; omega) (q585 ⟨by decide,by decide⟩ hc) fun s hs=>?_);refine Ret.bind (q367 hM hs hb) ?_;rintro ⟨⟨l,u3⟩,s3⟩ hl2;exact rb ⟨hb,hl2⟩
end
theorem q845{n:Int}(h:(Lit.int .u8 n).wf=true):BtwP 0 255 n:=by have h1:IntKind.u8.min=0:=rfl;have h2:IntKind.u8.max=255:=rfl;simp[Lit.wf,h1,h2] at h;unfold BtwP;omega
def updS(src:Nat->Int)(x v:Int):Nat->Int:=fun k=>if (k:Int)=x then v else src k
def rowS:List Int->(Nat->Int)->Nat->Nat->Int
 | [],src,_=>src
 | x :: xs,src,i=>rowS xs (updS src x ((i / 2 ^ xs.length % 2:Nat):Int)) i
theorem q843{t d:Int}(h0:0<=t)(h1:t<=1000000000000000)(hd:1<=d):t<=divU t d * d/\divU t d * d<t+d/\0<=divU t d:=by
 obtain ⟨a,rfl⟩:=Int.eq_ofNat_of_zero_le h0;obtain ⟨c,rfl⟩:=Int.eq_ofNat_of_zero_le (show 0<=d by omega);have e1:(a:Int).tdiv (c:Int)=((a / c:Nat):Int):=rfl;have e2:(a:Int).tmod (c:Int)=((a % c:Nat):Int):=rfl;have h2:=Nat.div_le_self a c;have h3:(c:Int) * ((a / c:Nat):Int)+((a % c:Nat):Int)=(a:Int):=by exact_mod_cast Nat.div_add_mod a c
 have h4:=Nat.mod_lt a (show c > 0 by omega);unfold divU;rw[e1,e2];generalize a / c=q at *;generalize a % c=r at *;rw[wrapI (n:=(q:Int)) (by omega) (by omega),wrapI (n:=(q:Int)+1) (by omega) (by omega)];rw[Int.mul_comm] at h3;split
 .rw[Int.add_mul,Int.one_mul];omega
 .omega
section
variable {b:DBlock} {l:List AT} (hA:q51 b l)
include hA
end
section
variable {D:Int} (hD:1<=D)
include hD
end
section
variable {b:DBlock} (hB:BlockP b) {rank:Nat->Nat} (hr:RankP b rank) {l:List AT} (hA:q51 b l)
include hB hr
include hA
end
theorem q466{a b:Int}(ha:0<=a)(hb:1<=b):∃ g:Int,1<=g/\a=g * (redF a b).1/\b=g * (redF a b).2.1/\0<=(redF a b).1/\1<=(redF a b).2.1/\Nat.gcd (redF a b).1.toNat (redF a b).2.1.toNat=1:=by
 obtain ⟨x,rfl⟩:=Int.eq_ofNat_of_zero_le ha;obtain ⟨y,rfl⟩:=Int.eq_ofNat_of_zero_le (show 0<=b by omega);have hg:0<Nat.gcd x y:=Nat.gcd_pos_of_pos_right _ (by omega);have e:redF (x:Int) (y:Int)=(((x / Nat.gcd x y:Nat):Int),((y / Nat.gcd x y:Nat):Int),()):=by unfold redF;rw[aE,aE];rfl
 rw[e];refine ⟨(Nat.gcd x y:Int),by omega,?_,?_,Int.natCast_nonneg _,?_,?_⟩
 .dsimp only; exact_mod_cast (Nat.mul_div_cancel' (Nat.gcd_dvd_left x y)).symm
 .dsimp only; exact_mod_cast (Nat.mul_div_cancel' (Nat.gcd_dvd_right x y)).symm
 .dsimp only;have:=Nat.div_pos (Nat.le_of_dvd (by omega) (Nat.gcd_dvd_right x y)) hg;omega
 .dsimp only;rw[aE,aE,Nat.gcd_div (Nat.gcd_dvd_left x y) (Nat.gcd_dvd_right x y),Nat.div_self hg]
section
variable {b:DBlock} (hB:BlockP b) {rank:Nat->Nat} (hr:RankP b rank) {l:List AT} (hA:q51 b l)
include hB hr hA
end
theorem q518{g h:Nat->Int}(e:∀ i,g i<=h i):∀ n,sumF g n<=sumF h n
 | 0=>Int.le_refl _
 | n+1=>by have h1:=q518 e n;have h2:=e n;unfold sumF;omega
theorem q728{A:Int->AT}{sup:List Int}{p:Nat}(hp:p<sup.length)(hd:1<=denA A sup p):sumF (fun i=>if i / 2 ^ p % 2=0 then wtP A sup i p sup.length else 0) (2 ^ sup.length)=dnP A sup p sup.length:=by
 have h1:=sum_wt A sup sup.length (Nat.le_refl _);rw[(q403 A sup p sup.length).2 hp] at h1;obtain ⟨m,hm⟩:∃ m,sup.length=m+(p+1):=⟨sup.length - (p+1),by omega⟩;have e:2 ^ sup.length=2 ^ m * (2 ^ p+2 ^ p):=by rw[hm,Nat.pow_add,Nat.pow_succ,Nat.mul_two]
 rw[e,q428 _ (Nat.two_pow_pos p),<- e,q92 (h:=fun i=>denA A sup p * (if i / 2 ^ p % 2=0 then wtP A sup i p sup.length else 0)) _ fun i _=>?_,q308] at h1
 .exact Int.eq_of_mul_eq_mul_left (by omega) h1
 .split
  .rename_i h0;exact (q504 A sup h0 sup.length).2 hp
  .simp
theorem q779{b:DBlock}{l:List AT}(hA:q51 b l){k p:Nat}(hp:p<(supL b k).length):sensN b l k p<=dnP (pickA (srcOf b) l) (supL b k) p (supL b k).length:=by
 have hok:=okA_of hA (sup:=supL b k) q54;have hd:1<=denA (pickA (srcOf b) l) (supL b k) p:=by unfold denA;rw[get0 hp];exact (hok _ (aR hp)).2.1.1
 rw[<- q728 hp hd];unfold sensN;refine q518 (fun i=>?_) _;have hw:=(q113 hok i p _ (Nat.le_refl _)).1;unfold sensT;dsimp only;split
 .split <;> omega
 .exact Int.le_refl _
noncomputable def bndD(b:DBlock)(l:List AT)(k:Nat):Nat->Int
 | 0=>0
 | p+1=>bndD b l k p+(pickA (srcOf b) l ((supL b k)[p]?.getD 0)).2.1
noncomputable def bndAns(b:DBlock)(l:List AT)(k:Int):Int×Int×Unit:=if codeA b l [k]≠0 then (0,codeA b l [k],()) else (bndD b l k.toNat (supL b k.toNat).length,0,())
section
variable {b:DBlock} {l:List AT} (hA:q51 b l) (k:Nat)
include hA
theorem q328:∀ p,p<=(supL b k).length->0<=bndD b l k p/\bndD b l k p<=1000 * (p:Int)
 | 0,_=>by simp[bndD]
 | p+1,h=>by have h1:=q328 p (by omega);have h2:=(okA_of hA (sup:=supL b k) q54 _ (aR (show p<(supL b k).length by omega))).2.2;unfold bndD;rw[get0 (by omega)];omega
theorem q818{p:Nat}(hp:p<(supL b k).length):densT b l k p<=dnP (pickA (srcOf b) l) (supL b k) (-1) (supL b k).length * (pickA (srcOf b) l ((supL b k)[p]?.getD 0)).2.1:=by
 have hok:=okA_of hA (sup:=supL b k) q54 _ (aR hp);unfold densT;rw[(q403 _ _ p _).2 hp];refine Int.mul_le_mul_of_nonneg_right (Int.mul_le_mul_of_nonneg_left (q779 hA hp) ?_) ?_
 .unfold denA; rw[get0 hp]; omega
 .rw[get0 hp]; omega
theorem q659:∀ q,q<=(supL b k).length->densS b l k q<=dnP (pickA (srcOf b) l) (supL b k) (-1) (supL b k).length * bndD b l k q
 | 0,_=>by simp[densS,bndD]
 | q+1,h=>by have h1:=q659 q (by omega);have h2:=q818 hA k (show q<(supL b k).length by omega);unfold densS bndD;rw[Int.mul_add];omega
end
section
variable {N:Nat} (hM:1000000000000<=N) {b:DBlock} (hb:SmallB b)
include hM hb
theorem q653{rank:Nat->Nat}(hB:BlockP b)(hr:RankP b rank){l:List AT}(hA:q51 b l){k:Nat}(hk:k<b.2.1.2.1.length)(h8:(supL b k).length<=8){p:Nat}:∀ q,q<=(supL b k).length->p<q->densT b l k p<=densS b l k q
 | 0,_,h=>absurd h (Nat.not_lt_zero _)
 | q+1,h,hp=>by
  have h1:=q144 hM hb hB hr hA hk h8 q (by omega);have h2:=q323 hM hb hB hr hA hk h8 (show q<(supL b k).length by omega);unfold densS;by_cases e:p=q
  .subst e; omega
  .have:=q653 hB hr hA hk h8 (p:=p) q (by omega) (by omega);omega
theorem q341{l:List AT}(hl:l.length<4000000)(k:Int)(u:Unit):F_159 N (b,l,k,u)=some (bndAns b l k):=by
 have hN:4000000<=N:=by omega
 refine Ret.eq ?_;unfold F_159 bndAns;dsimp only;refine Ret.bind (q164 hN hb hl (s:=[k]) (by simp) ()) ?_;rintro ⟨o,c,u1⟩ ⟨hc,h0⟩;dsimp only at hc h0 |-;subst hc;refine rm ?_ ?_ <;> intro hc
 .rw[if_pos hc]; exact rb rfl
 rw[if_neg (not_not_intro hc)];obtain ⟨hA,hk,gates,ord,m,rfl,hg,ht,hm⟩:=h0 hc;obtain ⟨⟨hB,hR⟩,hll,_⟩:=id hA;obtain ⟨hke,hkn⟩:=q181 (hk k (by simp));have hsm:=q20 hB;refine ra rfl ?_;refine Ret.bind (q313 hN hB hg ht ()) ?_;rintro ⟨S,u2⟩ hS;dsimp only at hS |-;obtain ⟨n,rfl⟩:∃ n:Nat,k=(n:Int):=⟨k.toNat,hke⟩;rw[aE] at hkn |-;have hSn:n<S.length:=by rw[hS.1]; exact hkn
 refine ri hSn (ra (hS.2 n hkn) ?_);refine ra (a:=(bndD b l n (supL b n).length,())) (Ret.eq ?_) (rb rfl);unfold F_158;dsimp only;have hsl:=q240 b n;refine vc 0 (supL b n).length (fun p (d:Int) (_:Unit)=>d=bndD b l n p) (by omega) (by omega) (by omega) rfl ?_ ?_
 .rintro p d u3 next _ hp rfl hn
  dsimp only;refine rh (by omega) (rg hp (ra rfl ?_));dsimp only;have hmem:=q54 _ (aR hp);rw[hm _ hmem];have h1:=q328 hA n p (by omega);have h2:=(okA_of hA (sup:=supL b n) q54 _ (aR hp)).2.2;rw[wrapI (n:=bndD b l n p+_) (by omega) (by omega)];refine hn _ _ ?_
  conv=>rhs; unfold bndD
  rw[get0 hp]
 .rintro d u3 next rfl
  exact rd (by dsimp only; omega) (rb rfl)
theorem q555{rank:Nat->Nat}(hB:BlockP b)(hr:RankP b rank){l:List AT}(hA:q51 b l){k:Nat}(hk:k<b.2.1.2.1.length)(h8:(supL b k).length<=8):
 let n:=divU (densS b l k (supL b k).length) (dnP (pickA (srcOf b) l) (supL b k) (-1) (supL b k).length)
 0<=n/\n<=bndD b l k (supL b k).length/\∀ p,p<(supL b k).length->sensN b l k p * (pickA (srcOf b) l ((supL b k)[p]?.getD 0)).2.1<=n * dnP (pickA (srcOf b) l) (supL b k) p (supL b k).length:=by
 intro n;have hok:=okA_of hA (sup:=supL b k) q54;have hd:=q87 hok (-1) _ (Nat.le_refl _);have hb1:=q144 hM hb hB hr hA hk h8 _ (Nat.le_refl _);obtain ⟨h1,h2,h3⟩:densS b l k (supL b k).length<=n * dnP (pickA (srcOf b) l) (supL b k) (-1) (supL b k).length/\n * dnP (pickA (srcOf b) l) (supL b k) (-1) (supL b k).length<densS b l k (supL b k).length+dnP (pickA (srcOf b) l) (supL b k) (-1) (supL b k).length/\0<=n:=q843 hb1.1 (by omega) hd.1
 clear_value n
 refine ⟨h3,?_,fun p hp=>?_⟩
 .have h4:=q659 hA k _ (Nat.le_refl _);have h5:n * dnP (pickA (srcOf b) l) (supL b k) (-1) (supL b k).length<(bndD b l k (supL b k).length+1) * dnP (pickA (srcOf b) l) (supL b k) (-1) (supL b k).length:=by rw[Int.add_mul,Int.one_mul,Int.mul_comm (bndD _ _ _ _)];exact Int.lt_of_lt_of_le h2 (by omega)
  have:=Int.lt_of_mul_lt_mul_right h5 (by omega);omega
 .have h4:=Int.le_trans (q653 hM hb hB hr hA hk h8 (p:=p) _ (Nat.le_refl _) hp) h1;rw[(q403 _ _ p _).2 hp] at h4;have hden:1<=denA (pickA (srcOf b) l) (supL b k) p:=by unfold denA;rw[get0 hp];exact (hok _ (aR hp)).2.1.1
  unfold densT at h4;rw[Int.mul_left_comm n,Int.mul_assoc] at h4;exact Int.le_of_mul_le_mul_left h4 (by omega)
end
end Go.Proofs.YtgldiandbkfmkaaGreatDoor
