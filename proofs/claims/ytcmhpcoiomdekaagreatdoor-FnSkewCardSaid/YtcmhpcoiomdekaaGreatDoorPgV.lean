/- The reference's draws: what they hand back is small. No program in sight. The reference's draws of libraries and designs: what they hand back is small. No program in sight. The reference's draws of wires and blocks: what they hand back is small. No program in sight. Sources of draws out of a code. No program in sight. The reference's draws of cases and corners: they end,and what they hand back is small. No program in sight. The reference's draws of jobs,nodes and paths: they end,and what they hand back is small. No program in sight. -/
import Derived.Test.YtcmhpcoiomdekaaGreatDoorPgX
import Derived.Test.YtcmhpcoiomdekaaGreatDoorPgZ
namespace Go.Proofs.YtcmhpcoiomdekaaGreatDoor
set_option linter.unusedSimpArgs false
set_option linter.unusedVariables false
set_option linter.unusedSectionVars false
set_option maxHeartbeats 1000000
abbrev Src:Type:=List Int×Int×Int×Unit
def RngP(s:Src):Prop:=(0<=s.2.1/\s.1.length<4000000)/\(0<=s.2.2.1/\s.2.2.1<2147483647)/\∀ b∈s.1,BtwP 0 255 b
section
variable {N:Nat} (hN:HN N) {u:Unit}
theorem tmodB{a b:Int}(h0:0<=a)(hb:0<b):0<=a.tmod b/\a.tmod b<b:=⟨Int.tmod_nonneg b h0,Int.tmod_lt_of_pos a hb⟩
theorem q9{s:Src}(h:RngP s)(n:Int):Ret (F_0 N (s,n,u)) (fun r=>(0<=r.1.1/\(r.1.1=0\/r.1.1<n))/\RngP r.2):=by
 obtain ⟨code,at0,seed,u0⟩:=s;obtain ⟨⟨h1,h2⟩,⟨h3,h4⟩,h5⟩:=h;dsimp only at h1 h2 h3 h4 h5;unfold F_0;dsimp only;refine ri (fun hn=>rb ⟨⟨bz _,.inl rfl⟩,⟨h1,h2⟩,⟨h3,h4⟩,h5⟩) fun hn=>ri (fun ha=>?_) fun ha=>?_
 .have hlt:at0.toNat<code.length:=by omega
  refine vd h1 hlt ?_;have hb:=h5 _ (aR hlt);unfold BtwP at hb;generalize code[at0.toNat]=e at hb |-;rw[wrapI (n:=e) (by omega) (by omega),wrapI (n:=at0+1) (by omega) (by omega)];refine ri (fun h6=>ve (by omega) (rb ?_)) fun h6=>ve (by omega) (rb ?_)
  .have:=tmodB (a:=e) (b:=n) hb.1 (by omega);exact ⟨⟨this.1,.inr this.2⟩,⟨by dsimp only; omega,h2⟩,⟨h3,h4⟩,h5⟩
  .rw[wrapI (n:=seed * 48271) (by omega) (by omega),wrapI (n:=seed * 48271+e) (by omega) (by omega),wrapI (n:=seed * 48271+e+1) (by omega) (by omega)];have k1:=tmodB (a:=seed * 48271+e+1) (b:=2147483647) (by omega) (by omega);have k2:=tmodB (a:=(seed * 48271+e+1).tmod 2147483647) (b:=n) k1.1 (by omega);exact ⟨⟨k2.1,.inr k2.2⟩,⟨by dsimp only; omega,h2⟩,k1,h5⟩
 .refine ve (by omega) (rb ?_);rw[wrapI (n:=seed * 48271) (by omega) (by omega),wrapI (n:=seed * 48271+11) (by omega) (by omega)];have k1:=tmodB (a:=seed * 48271+11) (b:=2147483647) (by omega) (by omega);have k3:0<=((seed * 48271+11).tmod 2147483647).tdiv 7/\((seed * 48271+11).tmod 2147483647).tdiv 7<=2147483647:=by rw[Int.tdiv_eq_ediv_of_nonneg k1.1];omega
  rw[wrapI (by omega) (by omega)];have k2:=tmodB (b:=n) k3.1 (by omega);exact ⟨⟨k2.1,.inr k2.2⟩,⟨h1,h2⟩,k1,h5⟩
theorem appOk{D M:Type}{R:M->Prop}{l:List D}{a:D}{x:Option M}(h:l.length<4000000)(h1:Ret x R):Ret (bif decide ((l++[a]).length<=lim) then x else none) R:=
 rn (by simp; unfold lim; omega) h1
theorem lenOk{D M:Type}{R:M->Prop}{l:List D}{x:Option M}(h:l.length<4000000)(h1:Ret x R):Ret (bif decide (l.length<=lim) then x else none) R:=
 rn (by unfold lim; omega) h1
include hN in
theorem q197{s:Src}(h:RngP s)(n:Int):Ret (F_1 N (s,n,u)) (fun r=>(1<=r.1.1.length/\r.1.1.length<=3)/\RngP r.2):=by
 unfold F_1;dsimp only;refine Ret.bind (q9 h n) ?_;rintro ⟨⟨a,u1⟩,s1⟩ ⟨_,hs1⟩;dsimp only at hs1 |-;refine Ret.bind (q9 hs1 3) ?_;rintro ⟨⟨c,u2⟩,s2⟩ ⟨hc,hs2⟩;dsimp only at hc hs2 |-;rw[wrapI (n:=1+c) (by omega) (by omega)];refine va (I:=fun(s:Int×Int×Src×List Int×Unit)=>0<=s.2.1/\s.2.1+s.2.2.2.1.length=1+c/\RngP s.2.2.1) (V:=fun s=>s.2.1.toNat) ?_ N _ ⟨by dsimp only; omega,by simp,hs2⟩ (by dsimp only; omega);rintro ⟨at1,k,s',out,u3⟩ next ⟨h1,h2,h3⟩ hnext
 dsimp only at h1 h2 h3 |-;refine ri (fun hk=>?_) fun hk=>rb ⟨by dsimp only; omega,h3⟩;refine appOk (by omega) ?_;refine Ret.bind (q9 h3 n) ?_;rintro ⟨⟨d,u4⟩,s4⟩ ⟨_,hs4⟩;dsimp only at hs4 |-;rw[wrapI (n:=k - 1) (by omega) (by omega)];exact hnext _ ⟨by dsimp only; omega,by simp; omega,hs4⟩ (by dsimp only; omega)
include hN in
theorem q358{s:Src}(h:RngP s)(n:Int):Ret (F_2 N (s,n,u)) (fun r=>SmallT r.1.1/\RngP r.2):=by
 unfold F_2;dsimp only;refine Ret.bind (q197 hN h 60) ?_;rintro ⟨⟨sl,u1⟩,s1⟩ ⟨hsl,hs1⟩;dsimp only at hsl hs1 |-;refine Ret.bind (q197 hN hs1 40) ?_;rintro ⟨⟨ll,u2⟩,s2⟩ ⟨hll,hs2⟩;dsimp only at hll hs2 |-;have hm:sl.length * ll.length<=3 * 3:=bB hsl.2 hll.2;have hm':((sl.length:Int) * (ll.length:Int))=((sl.length * ll.length:Nat):Int):=by simp
 rw[hm',wrapI (n:=((sl.length * ll.length:Nat):Int)) (by omega) (by omega)];generalize hL:sl.length * ll.length=L at hm;refine rr L (fun i (s:Src×List Int×Unit)=>RngP s.1/\s.2.1.length=i) (by omega) (by omega) ⟨hs2,rfl⟩ ?_ ?_
 .rintro i ⟨s',vs,u3⟩ next hi ⟨h1,h2⟩ hnext
  dsimp only at h1 h2 hnext |-;refine rk (by omega) ?_;refine Ret.bind (q9 h1 10) ?_;rintro ⟨⟨d,u4⟩,s4⟩ ⟨hd,hs4⟩;dsimp only at hs4 |-;refine ve (by omega) ?_;have hmod:((i:Int).tmod (ll.length:Int))=((i % ll.length:Nat):Int):=rfl;rw[hmod];have hz:0<i % ll.length->1<=i:=fun h=>by
   rcases Nat.eq_zero_or_pos i with h0 | h0
   .subst h0; simp at h
   .exact h0
  refine ri (fun hp=>?_) fun hp=>?_
  .have hi1:=hz (by omega);rw[wrapI (n:=(i:Int) - 1) (by omega) (by omega)];refine rt (by omega) (by omega) (rj (by omega) ?_);refine Ret.bind (q9 hs4 20) ?_;rintro ⟨⟨d5,u5⟩,s5⟩ ⟨_,hs5⟩;dsimp only at hs5 |-;refine ri (fun hq=>?_) fun hq=>?_
   .rw[wrapI (n:=(i:Int) - (ll.length:Int)) (by omega) (by omega)];refine rt (by omega) (by omega) (rj (by omega) ?_);refine Ret.bind (q9 hs5 20) ?_;rintro ⟨⟨d6,u6⟩,s6⟩ ⟨_,hs6⟩;dsimp only at hs6 |-;exact appOk (by omega) (hnext _ ⟨hs6,by simp; omega⟩)
   .exact appOk (by omega) (hnext _ ⟨hs5,by simp; omega⟩)
  .refine ri (fun hq=>?_) fun hq=>?_
   .rw[wrapI (n:=(i:Int) - (ll.length:Int)) (by omega) (by omega)];refine rt (by omega) (by omega) (rj (by omega) ?_);refine Ret.bind (q9 hs4 20) ?_;rintro ⟨⟨d6,u6⟩,s6⟩ ⟨_,hs6⟩;dsimp only at hs6 |-;exact appOk (by omega) (hnext _ ⟨hs6,by simp; omega⟩)
   .exact appOk (by omega) (hnext _ ⟨hs4,by simp; omega⟩)
 .rintro ⟨s',vs,u3⟩ next ⟨h1,h2⟩
  dsimp only at h1 h2 |-;refine rh (by omega) (rb ⟨⟨?_,?_,?_⟩,h1⟩) <;> dsimp only <;> omega
include hN in
theorem q94{s:Src}(h:RngP s)(n:Int):Ret (F_3 N (s,n,u)) (fun r=>q422 r.1.1/\RngP r.2):=by
 unfold F_3;dsimp only;refine Ret.bind (q358 hN h n) ?_;rintro ⟨⟨t1,u1⟩,s1⟩ ⟨h1,hs1⟩;dsimp only at h1 hs1 |-;refine Ret.bind (q358 hN hs1 n) ?_;rintro ⟨⟨t2,u2⟩,s2⟩ ⟨h2,hs2⟩;refine rb ⟨⟨by simp,fun t ht=>?_⟩,hs2⟩;simp only[aB,bg,or_false] at ht;rcases ht with rfl | rfl
 .exact h1
 .exact h2
include hN in
theorem q76{s:Src}(h:RngP s)(k a b c:Int):Ret (F_4 N (s,k,a,b,c,u)) (fun r=>SmallA r.1.1/\RngP r.2):=by
 unfold F_4;dsimp only;refine ri (fun _=>?_) fun _=>?_
 .refine Ret.bind (q9 h 10) ?_;rintro ⟨⟨d,u1⟩,s1⟩ ⟨_,hs1⟩;dsimp only at hs1 |-;refine Ret.bind (q94 hN hs1 _) ?_;rintro ⟨⟨ts,u2⟩,s2⟩ ⟨h2,hs2⟩;exact rb ⟨⟨h2,by simp,by simp⟩,hs2⟩
 .refine Ret.bind (q9 h 20) ?_;rintro ⟨⟨d,u1⟩,s1⟩ ⟨_,hs1⟩;dsimp only at hs1 |-;refine Ret.bind (q94 hN hs1 _) ?_;rintro ⟨⟨ts,u2⟩,s2⟩ ⟨h2,hs2⟩;dsimp only at h2 hs2 |-;refine Ret.bind (q94 hN hs2 _) ?_;rintro ⟨⟨ts3,u3⟩,s3⟩ ⟨h3,hs3⟩;exact rb ⟨⟨h2,h3⟩,hs3⟩
def q318(N:Nat)(t:List Int)(k:Nat):Prop:=∀(a:ByteArray)(b:Int)(c:List DPin)(d:List DArc)(e f:Int)(u v:Unit)(pin:Nat),pin<k->∃ r,F_48 N ((a,b,c,d,t,e,f,u),(pin:Int),v)=some r
include hN in
theorem q120{s:Src}(h:RngP s){nm:ByteArray}(hnm:nm.size<4000000){t:List Int}{K:Nat}(hK:(t.length=2/\K=1)\/(t.length=4/\K=2)\/(t.length=8/\K=3))(hS:q318 N t K):
 Ret (F_5 N (s,nm,t,u)) (fun r=>SmallC r.1.1/\RngP r.2):=by
 unfold F_5;dsimp only;refine Ret.bind (q9 h 50) ?_;rintro ⟨⟨d1,u1⟩,s1⟩ ⟨_,hs1⟩;dsimp only at hs1 |-;refine Ret.bind (q9 hs1 80) ?_;rintro ⟨⟨d2,u2⟩,s2⟩ ⟨_,hs2⟩;dsimp only at hs2 |-;refine va (I:=fun(s:Int×Src×List DPin×Unit)=>((s.1=1/\s.2.2.1.length=0)\/(s.1=2/\s.2.2.1.length=1)\/(s.1=4/\s.2.2.1.length=2)\/(s.1=8/\s.2.2.1.length=3))/\s.1<=t.length/\RngP s.2.1/\∀ p∈s.2.2.1,p.1.size<4000000) (V:=fun s=>(16 - s.1).toNat) ?_ N _ ⟨.inl ⟨rfl,rfl⟩,by dsimp only; omega,hs2,by simp⟩ (by dsimp only; omega);rintro ⟨n,s3,pins,u3⟩ next ⟨h1,h2,h3,h4⟩ hnext
 dsimp only at h1 h2 h3 h4 |-;refine ri (fun hn=>?_) fun hn=>?_
 .have hl:pins.length<[(⟨#[97]⟩:ByteArray),(⟨#[98]⟩:ByteArray),(⟨#[99]⟩:ByteArray),(⟨#[100]⟩:ByteArray)].length:=by simp; omega
  refine rg hl ?_;have e0:((pins.length:Int)).toNat=pins.length:=by omega
  rw[e0];refine rj hl ?_;have hnm:([(⟨#[97]⟩:ByteArray),(⟨#[98]⟩:ByteArray),(⟨#[99]⟩:ByteArray),(⟨#[100]⟩:ByteArray)][pins.length]).size<4000000:=by have:=aR hl;simp only[aB,bg,or_false] at this;rcases this with h | h | h | h <;> rw[h] <;> decide
  refine Ret.bind (q9 h3 9) ?_;rintro ⟨⟨d5,u5⟩,s5⟩ ⟨_,hs5⟩;dsimp only at hs5 |-;refine appOk (by omega) ?_;rw[wrapI (n:=2 * n) (by omega) (by omega)];refine hnext _ ⟨by simp only[aY,aF,List.length_nil]; omega,by dsimp only; omega,hs5,fun p hp=>?_⟩ (by dsimp only; omega);rcases aJ.1 hp with hp | hp
  .exact h4 p hp
  .simp only[aB,bg,or_false] at hp;subst hp; exact hnm
 .refine appOk (by omega) ?_;have hpk:pins.length=K:=by omega
  refine rr pins.length (fun i (s:Src×List DArc×Unit)=>RngP s.1/\s.2.1.length<=i/\∀ a∈s.2.1,SmallA a) (by omega) (by omega) ⟨h3,by simp,by simp⟩ ?_ ?_
  .rintro i ⟨s',arcs,u6⟩ next2 hi ⟨g1,g2,g3⟩ hnext2;dsimp only at g1 g2 g3 hnext2 |-;refine rk (by omega) ?_;obtain ⟨r,hr⟩:=hS nm 1 (pins++[((⟨#[121]⟩:ByteArray),(2:Int),(0:Int),false,())]) [] d1 d2 u2 () i (by omega);refine ra hr ?_;refine rm (fun _=>?_) fun _=>hnext2 _ ⟨g1,by dsimp only; omega,g3⟩;refine Ret.bind (q76 hN g1 _ _ _ _) ?_;rintro ⟨⟨ac,u7⟩,s7⟩ ⟨ha,hs7⟩;dsimp only at ha hs7 |-;refine appOk (by omega) (hnext2 _ ⟨hs7,by simp; omega,fun a hp=>?_⟩);rcases aJ.1 hp with hp | hp
   .exact g3 a hp
   .simp only[aB,bg,or_false] at hp;subst hp; exact ha
  .rintro ⟨s',arcs,u6⟩ next2 ⟨g1,g2,g3⟩;dsimp only at g1 g2 g3 |-;refine rh (by omega) (rb ⟨⟨hnm,⟨by simp; omega,fun p hp=>?_⟩,⟨by dsimp only; omega,g3⟩,by dsimp only; omega⟩,g1⟩);rcases aJ.1 hp with hp | hp
   .exact h4 p hp
   .simp only[aB,bg,or_false] at hp;subst hp; show (ByteArray.mk #[121]).size<4000000; decide
include hN in
theorem q121{s:Src}(h:RngP s){nm:ByteArray}(hnm:nm.size<4000000)(k e:Int):Ret (F_6 N (s,nm,k,e,u)) (fun r=>SmallC r.1.1/\RngP r.2):=by
 unfold F_6;dsimp only;refine Ret.bind (q9 h 50) ?_;rintro ⟨⟨d1,u1⟩,s1⟩ ⟨_,hs1⟩;dsimp only at hs1 |-;refine Ret.bind (q9 hs1 80) ?_;rintro ⟨⟨d2,u2⟩,s2⟩ ⟨_,hs2⟩;dsimp only at hs2 |-;refine Ret.bind (q9 hs2 9) ?_;rintro ⟨⟨d3,u3⟩,s3⟩ ⟨_,hs3⟩;dsimp only at hs3 |-;refine Ret.bind (q9 hs3 9) ?_;rintro ⟨⟨d4,u4⟩,s4⟩ ⟨_,hs4⟩;dsimp only at hs4 |-;refine Ret.bind (q76 hN hs4 _ _ _ _) ?_;rintro ⟨⟨a5,u5⟩,s5⟩ ⟨ha5,hs5⟩;dsimp only at ha5 hs5 |-;refine Ret.bind (q76 hN hs5 _ _ _ _) ?_;rintro ⟨⟨a6,u6⟩,s6⟩ ⟨ha6,hs6⟩;dsimp only at ha6 hs6 |-;refine Ret.bind (q76 hN hs6 _ _ _ _) ?_;rintro ⟨⟨a7,u7⟩,s7⟩ ⟨ha7,hs7⟩;dsimp only at ha7 hs7 |-;have hp:∀(x y:Int),q188 [((⟨#[100]⟩:ByteArray),(1:Int),x,false,()),((⟨#[99,107]⟩:ByteArray),(1:Int),y,true,()),((⟨#[113]⟩:ByteArray),(2:Int),(0:Int),false,())]:=fun x y=>⟨by simp,fun p hp=>by simp only[aB,bg,or_false] at hp;rcases hp with rfl | rfl | rfl <;> (dsimp only; decide)⟩;refine ri (fun _=>?_) fun _=>?_
 .refine Ret.bind (q76 hN hs7 _ _ _ _) ?_;rintro ⟨⟨a8,u8⟩,s8⟩ ⟨ha8,hs8⟩;dsimp only at ha8 hs8 |-;refine appOk (by simp) (rb ⟨⟨hnm,hp _ _,⟨by simp,fun a ha=>?_⟩,by simp⟩,hs8⟩);simp only[aJ,aB,bg,or_false] at ha;rcases ha with (rfl | rfl | rfl) | rfl <;> assumption
 .refine rb ⟨⟨hnm,hp _ _,⟨by simp,fun a ha=>?_⟩,by simp⟩,hs7⟩;simp only[aB,bg,or_false] at ha;rcases ha with rfl | rfl | rfl <;> assumption
end
set_option maxHeartbeats 2000000
open Go.RowKit
section
variable {N:Nat} (hN:HN N) {u:Unit}
theorem q750(M:Nat):q318 (M+16) [1,0] 1:=fun a b c d e f u v pin hp=>by
 obtain rfl:pin=0:=by omega
 exact ⟨(2,()),by kernel_rfl⟩
theorem q770(M:Nat):q318 (M+16) [0,1] 1:=fun a b c d e f u v pin hp=>by
 obtain rfl:pin=0:=by omega
 exact ⟨(1,()),by kernel_rfl⟩
theorem q708(M:Nat):q318 (M+16) [1,1,1,0] 2:=fun a b c d e f u v pin hp=>by
 rcases (show pin=0\/pin=1 by omega) with rfl | rfl
 .exact ⟨(2,()),by kernel_rfl⟩
 .exact ⟨(2,()),by kernel_rfl⟩
theorem q756(M:Nat):q318 (M+16) [0,1,1,0] 2:=fun a b c d e f u v pin hp=>by
 rcases (show pin=0\/pin=1 by omega) with rfl | rfl
 .exact ⟨(3,()),by kernel_rfl⟩
 .exact ⟨(3,()),by kernel_rfl⟩
theorem q782(M:Nat):q318 (M+16) [0,1,0,1,0,0,1,1] 3:=fun a b c d e f u v pin hp=>by
 rcases (show pin=0\/pin=1\/pin=2 by omega) with rfl | rfl | rfl
 .exact ⟨(1,()),by kernel_rfl⟩
 .exact ⟨(1,()),by kernel_rfl⟩
 .exact ⟨(3,()),by kernel_rfl⟩
include hN in
theorem q581{s:Src}(h:RngP s):Ret (F_7 N (s,u)) (fun r=>SmallL r.1.1/\RngP r.2):=by unfold F_7;dsimp only;obtain ⟨M,rfl⟩:∃ M,N=M+16:=⟨N - 16,by omega⟩;refine Ret.bind (q120 hN h (by decide) (.inl ⟨rfl,rfl⟩) (q750 M)) ?_;rintro ⟨⟨c1,u1⟩,s1⟩ ⟨h1,hs1⟩;dsimp only at h1 hs1 |-;refine Ret.bind (q120 hN hs1 (by decide) (.inl ⟨rfl,rfl⟩) (q770 M)) ?_;rintro ⟨⟨c2,u2⟩,s2⟩ ⟨h2,hs2⟩;dsimp only at h2 hs2 |-;refine Ret.bind (q120 hN hs2 (by decide) (.inr (.inl ⟨rfl,rfl⟩)) (q708 M)) ?_;rintro ⟨⟨c3,u3⟩,s3⟩ ⟨h3,hs3⟩;dsimp only at h3 hs3 |-;refine Ret.bind (q120 hN hs3 (by decide) (.inr (.inl ⟨rfl,rfl⟩)) (q756 M)) ?_;rintro ⟨⟨c4,u4⟩,s4⟩ ⟨h4,hs4⟩;dsimp only at h4 hs4 |-;refine Ret.bind (q120 hN hs4 (by decide) (.inr (.inr ⟨rfl,rfl⟩)) (q782 M)) ?_;rintro ⟨⟨c5,u5⟩,s5⟩ ⟨h5,hs5⟩;dsimp only at h5 hs5 |-;refine Ret.bind (q121 hN hs5 (by decide) _ _) ?_;rintro ⟨⟨c6,u6⟩,s6⟩ ⟨h6,hs6⟩;dsimp only at h6 hs6 |-;refine Ret.bind (q121 hN hs6 (by decide) _ _) ?_;rintro ⟨⟨c7,u7⟩,s7⟩ ⟨h7,hs7⟩;dsimp only at h7 hs7 |-;refine Ret.bind (q121 hN hs7 (by decide) _ _) ?_;rintro ⟨⟨c8,u8⟩,s8⟩ ⟨h8,hs8⟩;dsimp only at h8 hs8 |-;refine rb ⟨⟨by simp,fun c hc=>?_⟩,hs8⟩;simp only[aB,bg,or_false] at hc;rcases hc with rfl | rfl | rfl | rfl | rfl | rfl | rfl | rfl <;> assumption
theorem q381(n:Int):(strOf [n]).size=1:=by simp[strOf]
theorem q811(M:Nat){n:Nat}(hn:n<100):Ret (F_8 N (M+3) ((n:Int),u)) (fun r=>r.1.size<=2):=by
 unfold F_8;dsimp only;refine rh (by omega) ?_;refine ri (fun _=>rb (by dsimp only; rw[q381]; omega)) fun h10=>?_;have hd:((n:Int).tdiv 10)=((n / 10:Nat):Int):=rfl;rw[hd,wrapI (n:=((n / 10:Nat):Int)) (by omega) (by omega)];refine Ret.bind (Q:=fun r=>r.1.size<=1) ?_ ?_
 .unfold F_8;dsimp only;refine rh (by omega) (rk (by omega) (rb ?_));dsimp only;rw[q381]; omega
 .rintro ⟨t,u2⟩ ht;dsimp only at ht |-;refine rn (by rw[q381]; unfold limS; omega) (rb ?_);dsimp only;rw[ByteArray.size_append,q381]; omega
def InsQ(x:DInstance):Prop:=x.1.size<100/\1<=x.2.2.1.length/\x.2.2.1.length<=5
def DesQ(d:DDesign):Prop:=(d.1.length<=10/\∀ x∈d.1,InsQ x)/\(3<=d.2.1.length/\d.2.1.length<=20/\∀ s∈d.2.1,s.size<100)/\(1<=d.2.2.1.length/\d.2.2.1.length<=6/\∀ p∈d.2.2.1,p.1.size<100)
theorem q245{d:DDesign}(h:DesQ d):Few d:=⟨by have:=h.1.1; omega,fun x hx=>(h.1.2 x hx).2.2,by have:=h.2.2.2.1; omega⟩
theorem q336{d:DDesign}(h:DesQ d):SmallD d:=
 ⟨⟨by have:=h.1.1; omega,fun x hx=>⟨by have:=(h.1.2 x hx).1; omega,by have:=(h.1.2 x hx).2.2; omega⟩⟩,⟨by have:=h.2.1.2.1; omega,fun s hs=>by have:=h.2.1.2.2 s hs; omega⟩,⟨by have:=h.2.2.2.1; omega,fun p hp=>by have:=h.2.2.2.2 p hp; omega⟩⟩
theorem q373{D:Type}{P:D->Prop}{l:List D}{a:D}(h:∀ x∈l,P x)(ha:P a):∀ x∈l++[a],P x:=fun x hx=>by
 rcases aJ.1 hx with hx | hx
 .exact h x hx
 .simp only[aB,bg,or_false] at hx;subst hx; exact ha
theorem q329{D:Type}{P:D->Prop}{l:List D}{a:D}{i:Nat}(h:∀ x∈l,P x)(ha:P a):∀ x∈l.set i a,P x:=fun x hx=>by
 rcases cf hx with hx | rfl
 .exact h x hx
 .exact ha
include hN in
theorem q562{s:Src}(h:RngP s){most:Int}(hm:2<=most/\most<=10)(wild:Bool):Ret (F_9 N (s,most,wild,u)) (fun r=>DesQ r.1.1/\RngP r.2):=by
 unfold F_9;dsimp only;refine lenOk (by simp) ?_;rw[wrapI (n:=most - 1) (by omega) (by omega)];refine Ret.bind (q9 h (most - 1)) ?_;rintro ⟨⟨d1,u1⟩,s1⟩ ⟨hd1,hs1⟩;dsimp only at hd1 hs1 |-;rw[wrapI (n:=2+d1) (by omega) (by omega)]
 refine va (I:=fun(s:Int×Src×List DInstance×List ByteArray×Unit)=>(0<=s.1/\s.1+s.2.2.1.length=2+d1)/\RngP s.2.1/\s.2.2.2.1.length=3+s.2.2.1.length/\(∀ x∈s.2.2.1,InsQ x)/\∀ n∈s.2.2.2.1,n.size<100) (V:=fun s=>s.1.toNat) ?_ N _
  ⟨⟨by dsimp only; omega,by simp⟩,hs1,by simp,by simp,fun n hn=>by simp only[List.nil_append,aB,bg,or_false] at hn;rcases hn with rfl | rfl | rfl <;> decide⟩ (by dsimp only; omega)
 rintro ⟨n,s2,insts,nets,u2⟩ next ⟨⟨hn0,hn1⟩,hs2,hnl,hins,hnets⟩ hnext
 dsimp only at hn0 hn1 hs2 hnl hins hnets |-;refine ri (fun hn=>?_) fun hn=>?_
 .refine Ret.bind (q9 hs2 12) ?_;rintro ⟨⟨c,u3⟩,s3⟩ ⟨hc,hs3⟩;dsimp only at hc hs3 |-;have hcl:c.toNat<[(0:Int),(1:Int),(2:Int),(2:Int),(3:Int),(4:Int),(5:Int),(5:Int),(5:Int),(6:Int),(7:Int),(1:Int)].length:=by simp; omega
  refine rt hc.1 (by omega) (rj hcl ?_);have hce:∀ v∈[(0:Int),(1:Int),(2:Int),(2:Int),(3:Int),(4:Int),(5:Int),(5:Int),(5:Int),(6:Int),(7:Int),(1:Int)],0<=v/\v<=7:=by decide
  have hce:=hce _ (aR hcl);generalize [(0:Int),(1:Int),(2:Int),(2:Int),(3:Int),(4:Int),(5:Int),(5:Int),(5:Int),(6:Int),(7:Int),(1:Int)][c.toNat]=cell at hce |-;obtain ⟨M,hM⟩:∃ M,N=M+3:=⟨N - 3,by omega⟩;have hnum:∀(k:Nat),k<100->Ret (F_8 N N ((k:Int),())) (fun r=>r.1.size<=2):=fun k hk=>by
   have:=q811 (N:=N) (u:=()) M hk
   rwa [<- hM] at this
  refine Ret.bind (hnum insts.length (by omega)) ?_;rintro ⟨nm,u4⟩ hnm;dsimp only at hnm |-;refine rn (by show 1+nm.size<=limS; unfold limS; omega) ?_;have hpl:cell.toNat<[(2:Int),(2:Int),(3:Int),(3:Int),(4:Int),(3:Int),(3:Int),(3:Int)].length:=by simp; omega
  have hpe:∀ v∈[(2:Int),(2:Int),(3:Int),(3:Int),(4:Int),(3:Int),(3:Int),(3:Int)],2<=v/\v<=4:=by decide
  have hpe:=hpe _ (aR hpl);have hpg:[(2:Int),(2:Int),(3:Int),(3:Int),(4:Int),(3:Int),(3:Int),(3:Int)][cell.toNat]?=some [(2:Int),(2:Int),(3:Int),(3:Int),(4:Int),(3:Int),(3:Int),(3:Int)][cell.toNat]:=aW hpl;generalize [(2:Int),(2:Int),(3:Int),(3:Int),(4:Int),(3:Int),(3:Int),(3:Int)][cell.toNat]=p at hpe hpg
  refine va (I:=fun(s:Int×Src×(ByteArray×Int×Unit)×List Int×Unit)=>(0<=s.1/\s.1<=p - 1)/\RngP s.2.1/\s.2.2.1.1.size<100/\(s.2.2.2.1.length:Int)=s.1) (V:=fun s=>(p - 1 - s.1).toNat) ?_ N _
   ⟨⟨by dsimp only; omega,by dsimp only; omega⟩,hs3,by dsimp only; rw[ByteArray.size_append]; show 1+nm.size<100; omega,by simp⟩ (by dsimp only; omega)
  rintro ⟨pin,s4,⟨x1,x2,u5⟩,xn,u6⟩ next2 ⟨⟨hp0,hp1⟩,hs4,hx1,hxn⟩ hnext2;dsimp only at hp0 hp1 hs4 hx1 hxn |-;refine rt hce.1 (by simp; omega) (ra hpg ?_);rw[wrapI (n:=p - 1) (by omega) (by omega)];have leaf:∀{v:Int}{s5:Src}{y:Option ((DDesign×Unit)×Src)},RngP s5->pin<p - 1->y=next2 (wq (pin+1),s5,(x1,x2,u5),(([]++xn)++[v]),())->Ret (bif decide (([]++xn).length<=lim) then (bif decide ((([]++xn)++[v]).length<=lim) then y else none) else none) (fun r=>DesQ r.1.1/\RngP r.2):=fun {v s5 y} hs5 hlt hy=>by refine lenOk (by simp; omega) (appOk (by simp; omega) ?_);rw[hy,wrapI (n:=pin+1) (by omega) (by omega)];exact hnext2 _ ⟨⟨by dsimp only; omega,by dsimp only; omega⟩,hs5,hx1,by simp; omega⟩ (by dsimp only; omega)
  refine ri (fun hlt=>?_) fun hge=>?_
  .refine Ret.bind (q9 hs4 _) ?_;rintro ⟨⟨a1,u7⟩,s5⟩ ⟨_,hs5⟩;dsimp only at hs5 |-;refine Ret.bind (q9 hs5 3) ?_;rintro ⟨⟨a2,u8⟩,s6⟩ ⟨_,hs6⟩;dsimp only at hs6 |-;refine ri (fun _=>ri (fun _=>ri (fun _=>leaf hs6 hlt rfl) fun _=>leaf hs6 hlt rfl) fun _=>leaf hs6 hlt rfl) fun _=>ri (fun _=>ri (fun _=>leaf hs6 hlt rfl) fun _=>leaf hs6 hlt rfl) fun _=>leaf hs6 hlt rfl
  .refine lenOk (by simp; omega) (appOk (by simp; omega) ?_);refine Ret.bind (hnum nets.length (by omega)) ?_;rintro ⟨nm2,u7⟩ hnm2;dsimp only at hnm2 |-;refine rn (by show 1+nm2.size<=limS; unfold limS; omega) ?_;refine appOk (by omega) (appOk (by omega) ?_);rw[wrapI (n:=n - 1) (by omega) (by omega)];refine hnext _ ⟨⟨by dsimp only; omega,by simp; omega⟩,hs4,by simp; omega,q373 hins ⟨hx1,by simp,by simp; omega⟩,q373 hnets ?_⟩ (by dsimp only; omega);rw[ByteArray.size_append];show 1+nm2.size<100;omega
 .have hnz:n=0:=by omega
  refine rr insts.length (fun i (s:Src×List DInstance×Unit)=>RngP s.1/\s.2.1.length=insts.length/\∀ x∈s.2.1,InsQ x) (by omega) (by omega) ⟨hs2,rfl,hins⟩ ?_ ?_
  .rintro i ⟨s3,ins,u3⟩ next2 hi ⟨hs3,hl,hq⟩ hnext2;dsimp only at hs3 hl hq hnext2 |-;have hi':i<ins.length:=by omega
   have e0:((i:Int)).toNat=i:=by omega
   have leaf:∀{s5:Src}{y:Src->List DInstance->Option ((DDesign×Unit)×Src)},RngP s5->(∀ s6 l,y s6 l=next2 (wq ((i:Int)+1),s6,l,()))->Ret (bif inI (i:Int) ins.length then obind (ins[(i:Int).toNat]?) fun _=>obind (F_0 N (s5,(wq ((nets.length:Int) - (1:Int))),())) fun r51=>obind (ins[(i:Int).toNat]?) fun e52=>
    (bif inI (0:Int) e52.2.2.1.length then obind (ins[(i:Int).toNat]?) fun e53=>obind (e53.2.2.1[(0:Int).toNat]?) fun _=>y r51.2 (ins.set (i:Int).toNat (e53.1,e53.2.1,(e53.2.2.1.set ((0:Int).toNat) (wq ((1:Int)+r51.1.1))),())) else none) else none) (fun r=>DesQ r.1.1/\RngP r.2):=fun {s5 y} hs5 hy=>by
    have hx:=hq _ (aR hi');rw[e0];refine rg hi' (rj hi' ?_);refine Ret.bind (q9 hs5 _) ?_;rintro ⟨⟨a1,u7⟩,s6⟩ ⟨_,hs6⟩;dsimp only at hs6 |-;refine rj hi' (rt (by omega) (by have:=hx.2.1; omega) (rj hi' (rj (by have:=hx.2.1; show 0<_; omega) ?_)));rw[hy];exact hnext2 _ ⟨hs6,by simpa using hl,q329 hq ⟨hx.1,by simpa using hx.2.1,by simpa using hx.2.2⟩⟩
   refine rk (by omega) ?_;refine Ret.bind (q9 hs3 4) ?_;rintro ⟨⟨a1,u7⟩,s5⟩ ⟨_,hs5⟩;dsimp only at hs5 |-;refine ri (fun _=>?_) fun _=>hnext2 _ ⟨hs5,hl,hq⟩;refine rg hi' ?_;refine ra (show ins[(i:Int).toNat]?=some ins[i] by rw[e0]; exact aW hi') ?_;refine ri (fun _=>leaf (y:=fun s6 l=>next2 (wq ((i:Int)+1),s6,l,())) hs5 fun _ _=>rfl) fun _=>?_;refine rg hi' ?_;refine ra (show ins[(i:Int).toNat]?=some ins[i] by rw[e0]; exact aW hi') ?_;refine ri (fun _=>leaf (y:=fun s6 l=>next2 (wq ((i:Int)+1),s6,l,())) hs5 fun _ _=>rfl) fun _=>?_;exact ro (fun _=>leaf (y:=fun s6 l=>next2 (wq ((i:Int)+1),s6,l,())) hs5 fun _ _=>rfl) fun _=>hnext2 _ ⟨hs5,hl,hq⟩
  .rintro ⟨s3,ins,u3⟩ next2 ⟨hs3,hl,hq⟩;dsimp only at hs3 hl hq |-;refine rh (by omega) ?_;refine lenOk (by simp) (appOk (by simp) ?_);have hpo:∀(x:Int),∀ p∈([]++[((⟨#[99,107]⟩:ByteArray),(1:Int),(0:Int),()),((⟨#[97]⟩:ByteArray),(1:Int),(1:Int),()),((⟨#[98]⟩:ByteArray),(1:Int),(2:Int),())])++[((⟨#[121]⟩:ByteArray),(2:Int),x,())],p.1.size<100:=fun x p hp=>by simp only[List.nil_append,aJ,aB,bg,or_false] at hp;rcases hp with (rfl | rfl | rfl) | rfl <;> (dsimp only; decide)
   refine Ret.bind (q9 hs3 2) ?_;rintro ⟨⟨a1,u7⟩,s5⟩ ⟨_,hs5⟩;dsimp only at hs5 |-;refine ri (fun _=>?_) fun _=>?_
   .refine Ret.bind (q9 hs5 _) ?_;rintro ⟨⟨a2,u8⟩,s6⟩ ⟨_,hs6⟩;dsimp only at hs6 |-;refine appOk (by simp) (rb ⟨⟨⟨by dsimp only; omega,hq⟩,⟨by dsimp only; omega,by dsimp only; omega,hnets⟩,⟨by simp,by simp,q373 (hpo _) (by show (ByteArray.mk #[122]).size<100; decide)⟩⟩,hs6⟩)
   .exact rb ⟨⟨⟨by dsimp only; omega,hq⟩,⟨by dsimp only; omega,by dsimp only; omega,hnets⟩,⟨by simp,by simp,hpo _⟩⟩,hs5⟩
end
section
variable {N:Nat} (hN:HN N) {u:Unit}
theorem q754{d:DDesign}(h:Few d)(k:Int):(sinksL d k).length<=78:=by rw[q135];unfold q60;exact bG bj (q18 h)
theorem q701{M:Type}{R:M->Prop}{n:Nat}{x:Option M}(h:n<4000000)(h1:Ret x R):Ret (bif (decide (0<=(n:Int)) && (decide ((n:Int)<=(lim:Int)) && decide ((n:Int)=(n:Int)))) then x else none) R:=
 rq ⟨by omega,by unfold lim; omega,rfl⟩ h1
def WirQ(w:DWire):Prop:=(1<=w.1.length/\w.1.length<=8)/\(1<=w.2.1.length/\w.2.1.length<=8)/\(1<=w.2.2.1.length/\w.2.2.1.length<=8)/\w.2.2.2.1.length<=200
theorem q343{w:DWire}(h:WirQ w):SmallW w:=⟨by have:=h.1.2; omega,by have:=h.2.1.2; omega,by have:=h.2.2.1.2; omega,by have:=h.2.2.2; omega⟩
theorem q518(l:List Int)(hl:l.length<4000000):F_52 N (l,u)=some (l,()):=by refine Ret.eq ?_;unfold F_52;dsimp only;exact lenOk (by simpa using hl) (rb (by simp))
include hN in
theorem q366{s:Src}(h:RngP s){k:Nat}(hk:k<=100):Ret (F_10 N (s,(k:Int),u)) (fun r=>WirQ r.1.1/\RngP r.2):=by
 unfold F_10;dsimp only;refine Ret.bind (q9 h 6) ?_;rintro ⟨⟨d1,u1⟩,s1⟩ ⟨_,hs1⟩;dsimp only at hs1 |-;refine Ret.bind (Q:=fun r=>r.1=([-1],[0],[d1],List.replicate k 0,())) ?_ ?_
 .unfold F_51;dsimp only;refine q701 (by omega) (rb ?_);simp
 rintro ⟨w,u2⟩ rfl;dsimp only;refine Ret.bind (q9 hs1 4) ?_;rintro ⟨⟨d3,u3⟩,s3⟩ ⟨hd3,hs3⟩;dsimp only at hd3 hs3 |-
 refine va (I:=fun(s:Int×Src×List Int×List Int×List Int×Unit×Unit)=>(0<=s.1/\s.1+s.2.2.1.length=1+d3)/\RngP s.2.1/\1<=s.2.2.1.length/\s.2.2.2.1.length=s.2.2.1.length/\s.2.2.2.2.1.length=s.2.2.1.length) (V:=fun s=>s.1.toNat) ?_ N _
  ⟨⟨by dsimp only; omega,by simp; omega⟩,hs3,by simp,by simp,by simp⟩ (by dsimp only; omega)
 rintro ⟨n,s4,pa,re,ca,u4,u5⟩ next ⟨⟨hn0,hn1⟩,hs4,h1,h2,h3⟩ hnext
 dsimp only at hn0 hn1 hs4 h1 h2 h3 |-;refine ri (fun hn=>?_) fun hn=>?_
 .refine ra (q518 pa (by omega)) ?_;refine Ret.bind (q9 hs4 _) ?_;rintro ⟨⟨a1,u7⟩,s5⟩ ⟨_,hs5⟩;dsimp only at hs5 |-;refine appOk (by omega) (ra (q518 re (by omega)) ?_);refine Ret.bind (q9 hs5 _) ?_;rintro ⟨⟨a2,u8⟩,s6⟩ ⟨_,hs6⟩;dsimp only at hs6 |-;refine appOk (by omega) (ra (q518 ca (by omega)) ?_);refine Ret.bind (q9 hs6 _) ?_;rintro ⟨⟨a3,u9⟩,s7⟩ ⟨_,hs7⟩;dsimp only at hs7 |-;refine appOk (by omega) ?_;rw[wrapI (n:=n - 1) (by omega) (by omega)];exact hnext _ ⟨⟨by dsimp only; omega,by simp; omega⟩,hs7,by simp,by simpa using h2,by simpa using h3⟩ (by dsimp only; omega)
 .refine rr k (fun i (s:Src×List Int×Unit)=>RngP s.1/\s.2.1.length=k) (by omega) (by omega) ⟨hs4,by simp⟩ ?_ ?_
  .rintro i ⟨s5,sk,u6⟩ next2 hi ⟨hs5,hl⟩ hnext2;dsimp only at hs5 hl hnext2 |-;refine rk (by omega) ?_;refine Ret.bind (q9 hs5 _) ?_;rintro ⟨⟨a1,u7⟩,s6⟩ ⟨_,hs6⟩;dsimp only at hs6 |-;refine rg (by omega) (rj (by omega) ?_);exact hnext2 _ ⟨hs6,by simpa using hl⟩
  .rintro ⟨s5,sk,u6⟩ next2 ⟨hs5,hl⟩;dsimp only at hs5 hl |-;exact rh (by omega) (rb ⟨⟨⟨h1,by dsimp only; omega⟩,⟨by dsimp only; omega,by dsimp only; omega⟩,⟨by dsimp only; omega,by dsimp only; omega⟩,by dsimp only; omega⟩,hs5⟩)
def BlkQ(b:DBlock):Prop:=SmallL b.1/\DesQ b.2.1/\(3<=b.2.2.1.length/\b.2.2.1.length<=20/\∀ w∈b.2.2.1,WirQ w)
theorem q449{b:DBlock}(h:BlkQ b):SmallB b:=⟨h.1,q336 h.2.1,by have:=h.2.2.2.1; omega,fun w hw=>q343 (h.2.2.2.2 w hw)⟩
include hN in
theorem q217{s:Src}(h:RngP s){most:Int}(hm:2<=most/\most<=10)(wild:Bool):Ret (F_11 N (s,most,wild,u)) (fun r=>BlkQ r.1.1/\RngP r.2):=by
 unfold F_11;dsimp only;refine Ret.bind (q581 hN h) ?_;rintro ⟨⟨l,u1⟩,s1⟩ ⟨hl,hs1⟩;dsimp only at hl hs1 |-;refine Ret.bind (q562 hN hs1 hm wild) ?_;rintro ⟨⟨d,u2⟩,s2⟩ ⟨hd,hs2⟩;dsimp only at hd hs2 |-;have hnl:=hd.2.1.2.1;have hn3:=hd.2.1.1;refine rr d.2.1.length (fun i (s:Src×List DWire×Unit)=>RngP s.1/\s.2.1.length=i/\∀ w∈s.2.1,WirQ w) (by omega) (by omega) ⟨hs2,rfl,by simp⟩ ?_ ?_
 .rintro i ⟨s3,ws,u3⟩ next hi ⟨hs3,hwl,hws⟩ hnext
  dsimp only at hs3 hwl hws hnext |-;refine rk (by omega) ?_;refine ra (q124 hN (q245 hd) (i:Int)) ?_;dsimp only;refine Ret.bind (q366 hN hs3 (by have:=q754 (q245 hd) (i:Int); omega)) ?_;rintro ⟨⟨w,u4⟩,s4⟩ ⟨hw,hs4⟩;dsimp only at hw hs4 |-;exact appOk (by omega) (hnext _ ⟨hs4,by simp; omega,q373 hws hw⟩)
 .rintro ⟨s3,ws,u3⟩ next ⟨hs3,hwl,hws⟩
  dsimp only at hs3 hwl hws |-;exact rh (by omega) (rb ⟨⟨hl,hd,by dsimp only; omega,by dsimp only; omega,hws⟩,hs3⟩)
include hN in
theorem q370{s:Src}(h:RngP s):Ret (F_12 N (s,u)) (fun r=>(SmallB r.1.1/\Few r.1.1.2.1)/\RngP r.2):=by
 unfold F_12;dsimp only;refine Ret.bind (q9 h 3) ?_;rintro ⟨⟨d1,u1⟩,s1⟩ ⟨_,hs1⟩;dsimp only at hs1 |-;refine Ret.bind (q217 hN hs1 (by omega) _) ?_;rintro ⟨⟨⟨l,d,ws,u9⟩,u2⟩,s2⟩ ⟨⟨hl,hd,hw3,hw20,hws⟩,hs2⟩;dsimp only at hl hd hw3 hw20 hws hs2 |-;refine Ret.bind (q9 hs2 _) ?_;rintro ⟨⟨k,u3⟩,s3⟩ ⟨hk,hs3⟩;dsimp only at hk hs3 |-;refine Ret.bind (q9 hs3 20) ?_;rintro ⟨⟨d4,u4⟩,s4⟩ ⟨_,hs4⟩;dsimp only at hs4 |-;have hkl:k.toNat<ws.length:=by omega
 have hkg:ws[k.toNat]?=some ws[k.toNat]:=aW hkl;have hwk:=hws _ (aR hkl);have mk:∀ ws2:List DWire,ws2.length<=20->(∀ w∈ws2,SmallW w)->SmallB (l,d,ws2,u9)/\Few d:=fun ws2 h1 h2=>⟨⟨hl,q336 hd,by dsimp only; omega,h2⟩,q245 hd⟩;have hsm:∀ w∈ws,SmallW w:=fun w hw=>q343 (hws w hw);generalize ws[k.toNat]=wk at hkg hwk;have hwks:=q343 hwk;refine ri (fun _=>?_) fun _=>ri (fun _=>?_) fun _=>ri (fun _=>?_) fun _=>ri (fun _=>?_) fun _=>ri (fun _=>?_) fun _=>ri (fun _=>?_) fun _=>?_
 .refine rx ⟨by omega,by omega,by omega⟩ (rb ⟨mk _ (by simp; omega) fun w hw=>hsm w (List.mem_of_mem_take (List.mem_of_mem_drop hw)),hs4⟩)
 .refine rt hk.1 (by omega) (ra hkg (ra hkg ?_));refine ra (q518 wk.2.2.2.1 (by have:=hwk.2.2.2; omega)) ?_;dsimp only;refine appOk (by have:=hwk.2.2.2; omega) ?_;refine rt hk.1 (by omega) (ra hkg (rb ⟨mk _ (by simpa using hw20) (q329 hsm ⟨hwks.1,hwks.2.1,hwks.2.2.1,by have:=hwk.2.2.2; simp; omega⟩),hs4⟩))
 .refine rt hk.1 (by omega) (ra hkg (ra hkg ?_));refine rt (by omega) (by have:=hwk.2.1.1; omega) (ra hkg (rj (show (0:Int).toNat<wk.2.1.length by have:=hwk.2.1.1; show 0<_; omega) ?_));exact rb ⟨mk _ (by simpa using hw20) (q329 hsm ⟨hwks.1,by simpa using hwks.2.1,hwks.2.2.1,hwks.2.2.2⟩),hs4⟩
 .refine rt hk.1 (by omega) (ra hkg ?_);refine Ret.bind (q9 hs4 3) ?_;rintro ⟨⟨d5,u5⟩,s5⟩ ⟨hd5,hs5⟩;dsimp only at hd5 hs5 |-;have h3:d5.toNat<[((-1):Int),(500:Int),(501:Int)].length:=by simp; omega
  refine rt hd5.1 (by simp; omega) (rj h3 (ra hkg ?_));refine rt (by omega) (by have:=hwk.2.2.1.1; omega) (ra hkg (rj (show (0:Int).toNat<wk.2.2.1.length by have:=hwk.2.2.1.1; show 0<_; omega) ?_));exact rb ⟨mk _ (by simpa using hw20) (q329 hsm ⟨hwks.1,hwks.2.1,by simpa using hwks.2.2.1,hwks.2.2.2⟩),hs5⟩
 .refine rt hk.1 (by omega) (ra hkg ?_);refine rt hk.1 (by omega) (ra hkg (ra hkg ?_));refine Ret.bind (q9 hs4 5) ?_;rintro ⟨⟨d5,u5⟩,s5⟩ ⟨hd5,hs5⟩;dsimp only at hd5 hs5 |-;refine ra hkg ?_;have h1:=hwk.1;rw[wrapI (n:=(wk.1.length:Int) - 1) (by omega) (by omega)];refine rt (by omega) (by omega) (ra hkg (rj (show ((wk.1.length:Int) - 1).toNat<wk.1.length by omega) ?_));exact rb ⟨mk _ (by simpa using hw20) (q329 hsm ⟨by simpa using hwks.1,hwks.2.1,hwks.2.2.1,hwks.2.2.2⟩),hs5⟩
 .have hp:=hd.2.2;refine rt (by omega) (by have:=hp.1; omega) (rj (show (0:Int).toNat<d.2.2.1.length by have:=hp.1; show 0<_; omega) ?_);have hds:=q336 hd;have hdf:=q245 hd;refine rb ⟨⟨⟨hl,⟨hds.1,hds.2.1,by simpa using hds.2.2.1,q329 hds.2.2.2 ?_⟩,by dsimp only; omega,hsm⟩,hdf.1,hdf.2.1,by simpa using hdf.2.2⟩,hs4⟩;have h5:=hds.2.2.2 _ (aR (show (0:Int).toNat<d.2.2.1.length by have:=hp.1; show 0<_; omega));exact h5
 .exact rb ⟨mk _ hw20 hsm,hs4⟩
end
section
variable {N:Nat} (hN:HN N) {u:Unit}
theorem seedOk{seed e:Int}(h:0<=seed/\seed<2147483647)(he:BtwP 0 255 e):0<=(wq ((wq (seed * (31:Int)))+(wq e))).tmod (2147483647:Int)/\(wq ((wq (seed * (31:Int)))+(wq e))).tmod (2147483647:Int)<2147483647:=by unfold BtwP at he;rw[wrapI (n:=seed * 31) (by omega) (by omega),wrapI (n:=e) (by omega) (by omega),wrapI (n:=seed * 31+e) (by omega) (by omega)];exact tmodB (by omega) (by omega)
include hN in
theorem Ret.srcA{M:Type}{R:M->Prop}{code:List Int}(hl:code.length<4000000)(hc:∀ b∈code,BtwP 0 255 b){K:Int×Src×Unit->Option M}(hK:∀ s,RngP s.2.1->Ret (K s) R):
 Ret (fixN N (fun(next:(Int×Src×Unit)->Option M)(s:Int×Src×Unit)=>(bif (decide (s.1<(code.length:Int))) then (bif (decide (s.1<(64:Int))) then obind (atI code s.1) fun e=>next ((wq (s.1+(1:Int))),(s.2.1.1,s.2.1.2.1,((wq ((wq (s.2.1.2.2.1 * (31:Int)))+(wq e))).tmod (2147483647:Int)),()),()) else K s) else K s)) ((0:Int),(code,(0:Int),(12345:Int),()),())) R:=by
 refine va (I:=fun(s:Int×Src×Unit)=>(0<=s.1/\s.1<=64)/\RngP s.2.1) (V:=fun s=>(64 - s.1).toNat) ?_ N _
  ⟨⟨by dsimp only; omega,by dsimp only; omega⟩,⟨⟨by dsimp only; omega,hl⟩,⟨by dsimp only; omega,by dsimp only; omega⟩,hc⟩⟩ (by dsimp only; omega)
 rintro ⟨i,⟨cd,at0,seed,u1⟩,u2⟩ next ⟨⟨hi0,hi64⟩,hs⟩ hnext
 dsimp only at hi0 hi64 |-;refine ri (fun h1=>ri (fun h2=>?_) fun h2=>hK _ hs) fun h1=>hK _ hs;have hlt:i.toNat<code.length:=by omega
 refine vd hi0 hlt ?_;rw[wrapI (n:=i+1) (by omega) (by omega)];obtain ⟨g1,g2,g4⟩:=hs;exact hnext _ ⟨⟨by dsimp only; omega,by dsimp only; omega⟩,g1,seedOk g2 (hc _ (aR hlt)),g4⟩ (by dsimp only; omega)
end
section
variable {N:Nat} (hN:HN N) {u:Unit}
include hN
theorem q328{s:Src}(h:RngP s):Ret (F_13 N (s,u)) (fun r=>(SmallB r.1.1/\Few r.1.1.2.1)/\RngP r.2):=by
 unfold F_13;refine Ret.bind (q9 h 12) ?_;rintro ⟨⟨d,u1⟩,s1⟩ ⟨_,hs1⟩;dsimp only at hs1 |-;refine ri (fun _=>?_) fun _=>ri (fun _=>?_) fun _=>ri (fun _=>?_) fun _=>?_
 .refine Ret.bind (q370 hN hs1) ?_;rintro ⟨⟨b,u2⟩,s2⟩ hb;exact rb hb
 all_goals
  refine Ret.bind (q217 hN hs1 (by omega) _) ?_;rintro ⟨⟨b,u2⟩,s2⟩ ⟨hb,hs2⟩;exact rb ⟨⟨q449 hb,q245 hb.2.1⟩,hs2⟩
theorem q290{s:Src}(h:RngP s){b:DBlock}(hb:SmallB b):Ret (F_18 N (s,b,u)) (fun r=>r.1.1.length<4000000/\RngP r.2):=by
 unfold F_18;refine ra (q118 hN hb) (rl (fun _=>rb ⟨by simp,h⟩) fun hB=>?_);refine Ret.bind (q9 h 3) ?_;rintro ⟨⟨d,u1⟩,s1⟩ ⟨_,hs1⟩;dsimp only at hs1 |-;refine ri (fun _=>rb ⟨by simp,hs1⟩) fun _=>?_;have hL:=q27 hB;refine ra (q131 hN hB) ?_;refine Ret.bind (q9 hs1 8) ?_;rintro ⟨⟨m,u2⟩,s2⟩ ⟨hm,hs2⟩;dsimp only at hm hs2 |-;rw[wrapI (n:=1+m) (by omega) (by omega)];refine Ret.bind (q9 hs2 _) ?_;rintro ⟨⟨k0,u3⟩,s3⟩ ⟨hk0,hs3⟩;dsimp only at hk0 hs3 |-;refine va (I:=fun(s:Int×Src×List Int×Unit)=>(0<=s.1/\s.1<=6000)/\RngP s.2.1/\(s.2.2.1.length:Int)<=s.1) (V:=fun s=>(6000 - s.1).toNat) ?_ N _ ⟨by dsimp only; omega,hs3,by simp; omega⟩ (by dsimp only; omega);rintro ⟨k,s',out,u4⟩ next ⟨h1,h2,h3⟩ hnext
 dsimp only at h1 h2 h3 |-;refine ri (fun hk=>?_) fun hk=>?_
 .refine appOk (by omega) ?_;refine Ret.bind (q9 h2 _) ?_;rintro ⟨⟨d5,u5⟩,s5⟩ ⟨hd5,hs5⟩;dsimp only at hd5 hs5 |-;rw[wrapI (n:=1+d5) (by omega) (by omega),wrapI (n:=k+(1+d5)) (by omega) (by omega)];exact hnext _ ⟨by dsimp only; omega,hs5,by simp; omega⟩ (by dsimp only; omega)
 .refine Ret.bind (q9 h2 12) ?_;rintro ⟨⟨d6,u6⟩,s6⟩ ⟨_,hs6⟩;dsimp only at hs6 |-;refine ri (fun _=>?_) fun _=>rb ⟨by dsimp only; omega,hs6⟩;refine Ret.bind (q9 hs6 2) ?_;rintro ⟨⟨d7,u7⟩,s7⟩ ⟨_,hs7⟩;dsimp only at hs7 |-;exact appOk (by omega) (rb ⟨by simp; omega,hs7⟩)
omit hN in
theorem q285{s:Src}(h:RngP s):Ret (F_14 N (s,u)) (fun r=>r.1.1.1.size<4000000/\RngP r.2):=by
 unfold F_14;refine Ret.bind (q9 h 3) ?_;rintro ⟨⟨d,u1⟩,s1⟩ ⟨hd,hs1⟩;dsimp only at hd hs1 |-;have hlt:d.toNat<[(⟨#[115,108,111,119]⟩:ByteArray),(⟨#[102,97,115,116]⟩:ByteArray),(⟨#[116,121,112]⟩:ByteArray)].length:=by simp; omega
 have hnm:∀ x∈[(⟨#[115,108,111,119]⟩:ByteArray),(⟨#[102,97,115,116]⟩:ByteArray),(⟨#[116,121,112]⟩:ByteArray)],x.size<4000000:=by intro x hx;simp only[aB,bg,or_false] at hx;rcases hx with rfl | rfl | rfl <;> decide
 refine rt hd.1 (by simp only[aF,List.length_nil] at hlt |-; omega) (rj hlt ?_);have hsz:=hnm _ (aR hlt);refine Ret.bind (q9 hs1 20) ?_;rintro ⟨⟨d3,u3⟩,s3⟩ ⟨_,hs3⟩;dsimp only at hs3 |-;refine Ret.bind (q9 hs3 20) ?_;rintro ⟨⟨d4,u4⟩,s4⟩ ⟨_,hs4⟩;dsimp only at hs4 |-;refine Ret.bind (q9 hs4 60) ?_;rintro ⟨⟨d5,u5⟩,s5⟩ ⟨_,hs5⟩;dsimp only at hs5 |-;refine Ret.bind (q9 hs5 40) ?_;rintro ⟨⟨d6,u6⟩,s6⟩ ⟨_,hs6⟩;dsimp only at hs6 |-;refine Ret.bind (q9 hs6 30) ?_;rintro ⟨⟨d7,u7⟩,s7⟩ ⟨_,hs7⟩;dsimp only at hs7 |-;refine ri (fun _=>rb ⟨hsz,hs7⟩) fun _=>ri (fun _=>?_) fun _=>ri (fun _=>?_) fun _=>ri (fun _=>rb ⟨by show (0:Nat)<4000000; omega,hs7⟩) fun _=>rb ⟨hsz,hs7⟩
 .refine Ret.bind (q9 hs7 3) ?_;rintro ⟨⟨d8,u8⟩,s8⟩ ⟨hd8,hs8⟩;dsimp only at hd8 hs8 |-;have h3:d8.toNat<[(99:Int),(100:Int),((-1):Int)].length:=by simp; omega
  exact rt hd8.1 (by simp only[aF,List.length_nil] at h3 |-; omega) (rj h3 (rb ⟨hsz,hs8⟩))
 .refine Ret.bind (q9 hs7 2) ?_;rintro ⟨⟨d8,u8⟩,s8⟩ ⟨_,hs8⟩;exact rb ⟨hsz,hs8⟩
omit hN in
theorem Ret.srcDraw{M:Type}{R:M->Prop}{s:Src}(h:RngP s){out:List DSource}(hl:out.length<1000){f:Int}{K:Src×List DSource->Option M}(hK:∀ s' o',RngP s'->o'.length=out.length+1->Ret (K (s',o')) R):
 Ret (obind (F_0 N (s,(200:Int),())) fun r71=>obind (F_0 N (r71.2,(30:Int),())) fun r72=>obind (F_0 N (r72.2,(40:Int),())) fun r73=>obind (F_0 N (r73.2,(12:Int),())) fun r74=>
  (bif decide ((out++[(f,((wq (r71.1.1 - (50:Int))),(wq ((wq (r71.1.1 - (50:Int)))+r73.1.1)),()),(r72.1.1,(wq (r72.1.1+r74.1.1)),()),())]).length<=lim) then
   K (r74.2,out++[(f,((wq (r71.1.1 - (50:Int))),(wq ((wq (r71.1.1 - (50:Int)))+r73.1.1)),()),(r72.1.1,(wq (r72.1.1+r74.1.1)),()),())]) else none)) R:=by
 refine Ret.bind (q9 h 200) ?_;rintro ⟨⟨d1,u1⟩,s1⟩ ⟨_,hs1⟩;dsimp only at hs1 |-;refine Ret.bind (q9 hs1 30) ?_;rintro ⟨⟨d2,u2⟩,s2⟩ ⟨_,hs2⟩;dsimp only at hs2 |-;refine Ret.bind (q9 hs2 40) ?_;rintro ⟨⟨d3,u3⟩,s3⟩ ⟨_,hs3⟩;dsimp only at hs3 |-;refine Ret.bind (q9 hs3 12) ?_;rintro ⟨⟨d4,u4⟩,s4⟩ ⟨_,hs4⟩;dsimp only at hs4 |-;exact appOk (by omega) (hK _ _ hs4 (by simp))
theorem q256{s:Src}(h:RngP s){b:DBlock}(hb:SmallB b):Ret (F_20 N (s,b,u)) (fun r=>r.1.1.length<4000000/\RngP r.2):=by
 unfold F_20;refine ra (q118 hN hb) (rl (fun _=>rb ⟨by simp,h⟩) fun hB=>?_);have hpl:=q18 (few_of hB.1);refine ra (q46 hN (few_of hB.1)) ?_;dsimp only;refine rr (q11 b.2.1).length (fun i (s:Src×List DSource×Unit)=>RngP s.1/\s.2.1.length<=2 * i) (by omega) (by omega) ⟨h,by simp⟩ ?_ ?_
 .rintro i ⟨s1,out,u1⟩ next hi ⟨h1,h2⟩ hnext
  dsimp only at h1 h2 |-;rw[aE];refine rk (by omega) (rg hi (rj hi ?_))
  -- the two nodes of a place
  have round:∀(f:((Int×Src×List DSource×Unit)->Option ((List DSource×Unit)×Src))->(Int×Src×List DSource×Unit)->Option ((List DSource×Unit)×Src)),
   (∀ nx (k:Int) s' o' (u':Unit),0<=k/\k<2->RngP s'->(o'.length:Int)<=2 * (i:Int)+k->(∀ s'' o'',RngP s''->(o''.length:Int)<=2 * (i:Int)+k+1->Ret (nx (wq (k+1),s'',o'',())) (fun r=>r.1.1.length<4000000/\RngP r.2))->Ret (f nx (k,s',o',u')) (fun r=>r.1.1.length<4000000/\RngP r.2))->
   (∀ nx s' o' (u':Unit),RngP s'->(o'.length:Int)<=2 * (i:Int)+2->Ret (f nx (2,s',o',u')) (fun r=>r.1.1.length<4000000/\RngP r.2))->
   Ret (fixN N f ((0:Int),s1,out,u1)) (fun r=>r.1.1.length<4000000/\RngP r.2):=fun f hf he=>by
   refine va (I:=fun(s:Int×Src×List DSource×Unit)=>(0<=s.1/\s.1<=2)/\RngP s.2.1/\(s.2.2.1.length:Int)<=2 * (i:Int)+s.1) (V:=fun s=>(2 - s.1).toNat) ?_ N _ ⟨by dsimp only; omega,h1,by dsimp only; omega⟩ (by dsimp only; omega);rintro ⟨k,s',o',u'⟩ nx ⟨k1,k2,k3⟩ hn;dsimp only at k1 k2 k3;by_cases hk:k<2
   .refine hf nx k s' o' u' ⟨k1.1,hk⟩ k2 k3 fun s'' o'' hs ho=>?_;rw[wrapI (n:=k+1) (by omega) (by omega)];exact hn _ ⟨by dsimp only; omega,hs,by dsimp only; omega⟩ (by dsimp only; omega)
   .obtain rfl:k=2:=by omega
    exact he nx s' o' u' k2 k3
  have fin:∀ s' o' (u':Unit),RngP s'->(o'.length:Int)<=2 * (i:Int)+2->Ret (next (wq ((i:Int)+1),s',o',u')) (fun r=>r.1.1.length<4000000/\RngP r.2):=fun s' o' u' hs ho=>hnext _ ⟨hs,by dsimp only; omega⟩;refine ri (fun _=>rg hi (rj hi ?_)) fun _=>?_
  .refine round _ ?_ ?_
   .rintro nx k s' o' u' hk hs ho hn;dsimp only;refine rk (by omega) (ro (fun _=>?_) fun _=>?_)
    .refine Ret.bind (q9 hs 8) ?_;rintro ⟨⟨d1,u2⟩,s2⟩ ⟨_,hs2⟩;dsimp only at hs2 |-;refine ri (fun _=>Ret.srcDraw (K:=fun p=>nx (wq (k+1),p.1,p.2,())) hs2 (by omega) fun s3 o3 hs3 ho3=>hn s3 o3 hs3 (by omega)) fun _=>?_;refine Ret.bind (q9 hs2 24) ?_;rintro ⟨⟨d2,u3⟩,s3⟩ ⟨_,hs3⟩;dsimp only at hs3 |-;refine ri (fun _=>Ret.srcDraw (K:=fun p=>nx (wq (k+1),p.1,p.2,())) hs3 (by omega) fun s4 o4 hs4 ho4=>hn s4 o4 hs4 (by omega)) fun _=>hn _ _ hs3 (by omega)
    .refine Ret.bind (q9 hs 24) ?_;rintro ⟨⟨d2,u3⟩,s3⟩ ⟨_,hs3⟩;dsimp only at hs3 |-;refine ri (fun _=>Ret.srcDraw (K:=fun p=>nx (wq (k+1),p.1,p.2,())) hs3 (by omega) fun s4 o4 hs4 ho4=>hn s4 o4 hs4 (by omega)) fun _=>hn _ _ hs3 (by omega)
   .rintro nx s' o' u' hs ho;exact rh (by dsimp only; omega) (fin _ _ _ hs ho)
  .refine round _ ?_ ?_
   .rintro nx k s' o' u' hk hs ho hn;dsimp only;refine rk (by omega) ?_;refine Ret.bind (q9 hs 24) ?_;rintro ⟨⟨d2,u3⟩,s3⟩ ⟨_,hs3⟩;dsimp only at hs3 |-;refine ri (fun _=>Ret.srcDraw (K:=fun p=>nx (wq (k+1),p.1,p.2,())) hs3 (by omega) fun s4 o4 hs4 ho4=>hn s4 o4 hs4 (by omega)) fun _=>hn _ _ hs3 (by omega)
   .rintro nx s' o' u' hs ho;exact rh (by dsimp only; omega) (fin _ _ _ hs ho)
 .rintro ⟨s1,out,u1⟩ next ⟨h1,h2⟩
  dsimp only at h1 h2 |-;refine rh (by omega) (ri (fun h0=>?_) fun _=>rb ⟨by dsimp only; omega,h1⟩);refine Ret.bind (q9 h1 _) ?_;rintro ⟨⟨k,u2⟩,s2⟩ ⟨hk,hs2⟩;dsimp only at hk hs2 |-;have hkl:k.toNat<out.length:=by omega
  have h0l:(0:Int).toNat<out.length:=by simp; omega
  refine Ret.bind (q9 hs2 30) ?_;rintro ⟨⟨d3,u3⟩,s3⟩ ⟨_,hs3⟩;dsimp only at hs3 |-;refine ri (fun _=>?_) fun _=>ri (fun _=>?_) fun _=>ri (fun _=>?_) fun _=>ri (fun _=>?_) fun _=>rb ⟨by dsimp only; omega,hs3⟩
  .exact rt (by omega) (by omega) (rj h0l (rt hk.1 (by omega) (rj hkl (rb ⟨by simp; omega,hs3⟩))))
  .exact rt hk.1 (by omega) (rj hkl (rt hk.1 (by omega) (rj hkl (rb ⟨by simp; omega,hs3⟩))))
  .exact rt hk.1 (by omega) (rj hkl (rb ⟨by simp; omega,hs3⟩))
  .exact rt hk.1 (by omega) (rj hkl (rb ⟨by simp; omega,hs3⟩))
abbrev CaseS(r:DBlock×DCorner×List Int×List DSource×Unit):Prop:=SmallB r.1/\r.2.1.1.size<4000000/\r.2.2.1.length<4000000/\r.2.2.2.1.length<4000000
theorem q365{s:Src}(h:RngP s):Ret (F_21 N (s,u)) (fun r=>(CaseS r.1/\Few r.1.1.2.1)/\RngP r.2):=by
 unfold F_21;refine Ret.bind (q328 hN h) ?_;rintro ⟨⟨b,u1⟩,s1⟩ ⟨⟨hb,hbf⟩,hs1⟩;dsimp only at hb hbf hs1 |-;refine Ret.bind (q285 hs1) ?_;rintro ⟨⟨c,u2⟩,s2⟩ ⟨hc,hs2⟩;dsimp only at hc hs2 |-;refine Ret.bind (q9 hs2 3) ?_;rintro ⟨⟨d,u3⟩,s3⟩ ⟨_,hs3⟩;dsimp only at hs3 |-;have rest:∀(b:DBlock)(ub:Unit)(s3:Src),SmallB b->Few b.2.1->RngP s3->Ret (obind (F_18 N (s3,b,ub)) fun r5=>obind (F_68 N (b,ub)) fun r6=>
  (bif r6.1 then (bif (decide ((r5.1.1.length:Int)=(0:Int))) then obind (F_0 N (r5.2,(6:Int),())) fun r7=>(bif (decide ((0:Int)<r7.1.1)) then
   obind (F_76 N (b,ub)) fun r8=>obind (F_20 N (r7.2,b,ub)) fun r9=>some ((b,c,r8.1,r9.1),r9.2)
   else obind (F_20 N (r7.2,b,ub)) fun r10=>some ((b,c,r5.1.1,r10.1),r10.2))
   else obind (F_20 N (r5.2,b,ub)) fun r11=>some ((b,c,r5.1.1,r11.1),r11.2))
   else obind (F_20 N (r5.2,b,ub)) fun r12=>some ((b,c,r5.1.1,r12.1),r12.2))) (fun r=>(CaseS r.1/\Few r.1.1.2.1)/\RngP r.2):=by
  intro b ub s3 hb hbf hs3;refine Ret.bind (q290 hN hs3 hb) ?_;rintro ⟨⟨br,u4⟩,s4⟩ ⟨hbr,hs4⟩;dsimp only at hbr hs4 |-;have srcs:∀(br:List Int)(s5:Src),br.length<4000000->RngP s5->Ret (obind (F_20 N (s5,b,ub)) fun r9=>some ((b,c,br,r9.1),r9.2)) (fun r=>(CaseS r.1/\Few r.1.1.2.1)/\RngP r.2):=by intro br s5 hbr hs5;refine Ret.bind (q256 hN hs5 hb) ?_;rintro ⟨⟨l,u6⟩,s6⟩ ⟨hl,hs6⟩;exact rb ⟨⟨⟨hb,hc,hbr,hl⟩,hbf⟩,hs6⟩
  refine ra (q118 hN hb) (ry (fun hB=>ri (fun _=>?_) fun _=>srcs _ _ hbr hs4) fun _=>srcs _ _ hbr hs4);refine Ret.bind (q9 hs4 6) ?_;rintro ⟨⟨d5,u5⟩,s5⟩ ⟨_,hs5⟩;dsimp only at hs5 |-;refine ri (fun _=>?_) fun _=>srcs _ _ hbr hs5;refine Ret.bind (q507 hN hB) ?_;rintro ⟨br2,u6⟩ hbr2;exact srcs _ _ (by dsimp only at hbr2 |-; omega) hs5
 refine ri (fun _=>?_) fun _=>rest b u1 s3 hb hbf hs3;refine Ret.bind (q217 hN hs3 (by omega) _) ?_;rintro ⟨⟨b2,u4⟩,s4⟩ ⟨hb2,hs4⟩;exact rest b2 u4 s4 (q449 hb2) (q245 hb2.2.1) hs4
end
section
variable {N:Nat} (hM:1000000000000<=N) {u:Unit}
include hM
abbrev JobS(j:DJob):Prop:=SmallJ j/\Few j.1.2.1
theorem q386{s:Src}(h:RngP s):Ret (F_22 N (s,u)) (fun r=>JobS r.1.1/\RngP r.2):=by
 have hN:4000000<=N:=by omega
 unfold F_22;refine Ret.bind (q365 hN h) ?_;rintro ⟨j,s1⟩ ⟨⟨h1,h2⟩,h3⟩;exact rb ⟨⟨h1,h2⟩,h3⟩
theorem q194{s:Src}(h:RngP s){j:DJob}(hj:JobS j):Ret (F_23 N (s,j,u)) (fun r=>RngP r.2):=by
 have hN:4000000<=N:=by omega
 unfold F_23;dsimp only;refine ra (q590 hM hj.1 u) (ra (q38 hN hj.2) ?_);have hpl:=q18 hj.2;refine Ret.bind (q9 h _) ?_;rintro ⟨⟨d,u2⟩,s2⟩ ⟨_,hs2⟩;dsimp only at hs2 |-;refine va (I:=fun(s:Int×Int×Src×Unit)=>0<=s.2.1/\RngP s.2.2.1) (V:=fun s=>(12 - s.2.1).toNat) ?_ N _ ⟨by dsimp only; omega,hs2⟩ (by dsimp only; omega);rintro ⟨nd,k,s3,u3⟩ next ⟨h1,h2⟩ hnext
 dsimp only at h1 h2 |-;have go:∀(nd:Int)(s4:Src),RngP s4->k<12->Ret (next (nd,wq (k+1),s4,())) (fun r=>RngP r.2):=fun nd s4 hs4 hk=>by rw[wrapI (n:=k+1) (by omega) (by omega)];exact hnext _ ⟨by dsimp only; omega,hs4⟩ (by dsimp only; omega)
 refine ri (fun hk=>ri (fun h0=>?_) fun _=>rb h2) fun _=>rb h2;refine Ret.bind (q9 h2 16) ?_;rintro ⟨⟨x,u4⟩,s4⟩ ⟨_,hs4⟩;dsimp only at hs4 |-;refine ri (fun _=>?_) fun _=>rb hs4;refine Ret.bind (q9 hs4 _) ?_;rintro ⟨⟨y,u5⟩,s5⟩ ⟨hy,hs5⟩;dsimp only at hy hs5 |-;refine ri (fun hlt=>?_) fun _=>go _ _ hs5 hk;rcases q66 hM j with ⟨c,hc,e⟩ | ⟨o,T,e,hW⟩
 .rw[e] at h0; exact absurd h0 hc
 rw[e];refine ra rfl ?_;dsimp only;have hT:=hW.tim.1;refine vd hy.1 (by unfold nL at hT; omega) (ro (fun _=>go _ _ hs5 hk) fun _=>go _ _ hs5 hk)
theorem q333{code:List Int}(hl:code.length<=4096)(hc:∀ b∈code,BtwP 0 255 b):Ret (F_24 N (code,u)) (fun r=>JobS r.1):=by
 have hN:4000000<=N:=by omega
 unfold F_24;refine Ret.srcA hN (by omega) hc fun s hs=>?_;refine Ret.bind (q386 hM hs) ?_;rintro ⟨⟨j,u1⟩,s1⟩ ⟨hj,hs1⟩;dsimp only at hj hs1 |-;refine Ret.bind (q194 hM hs1 hj) ?_;rintro ⟨⟨a,u2⟩,s2⟩ hs2;dsimp only at hs2 |-;refine Ret.bind (q194 hM hs2 hj) ?_;rintro ⟨⟨d,u3⟩,s3⟩ _;exact rb hj
end
end Go.Proofs.YtcmhpcoiomdekaaGreatDoor
