/- The waivers' file: both sides. No program in sight. The reference's draws: what they hand back is small. No program in sight. The reference's draws of libraries and designs: what they hand back is small. No program in sight. The reference's draws of wires and blocks: what they hand back is small. No program in sight. The reference's draw of violations and waivers: it ends,and what it hands back is small. No program in sight. What a row lays is what the contracts ask for: a table of strings,a table of numbers. No condition of its own. -/
import Derived.Test.YtefbaonpbemejabGreatDoorPgZ
import Derived.Test.YtefbaonpbemejabGreatDoorPgX
import Derived.Test.YtefbaonpbemejabGreatDoorPgL
import Derived.Test.YtefbaonpbemejabGreatDoorRows
import Derived.Lib.LaidTab
import Derived.Lib.AppendIntMem
import Derived.ChangeVars
import Derived.Stop.LaidErr
namespace Go.Proofs.YtefbaonpbemejabGreatDoor
set_option linter.unusedSimpArgs false
set_option linter.unusedVariables false
set_option linter.unusedSectionVars false
set_option maxHeartbeats 1000000
noncomputable def fileL(N:Nat)(b:DBlock)(l:List DWaiver):List UInt8:=l.flatMap fun w=>wtext N b w++[10]
theorem q646{N:Nat}{b:DBlock}{l:List DWaiver}{i:Nat}(hi:i<l.length):fileL N b (l.take (i+1))=fileL N b (l.take i)++(wtext N b l[i]++[10]):=by unfold fileL;rw[aI hi,List.flatMap_append];simp
section
variable {N:Nat} (hN:HN N) {u:Unit}
include hN
theorem q507{b:DBlock}(hs:SmallB b)(hb:BlockP b):∀{l:List DWaiver},(∀ w∈l,WaivP b w)->(fileL N b l).length<=l.length * 10000001
 | [],_=>by simp[fileL]
 | w :: l,h=>by
  have h1:=q507 hs hb (l:=l) (fun x hx=>h x (aN _ hx));have h2:=q265 hN hs hb (h w aO);have:fileL N b (w :: l)=wtext N b w++[10]++fileL N b l:=by simp[fileL]
  rw[this];simp only[aY,aF,List.length_nil];omega
theorem q385{b:DBlock}(hs:SmallB b){l:List DWaiver}(hl:l.length<4000000)(hw:∀ w∈l,q118 w):F_136 N (b,l,u)=some (B (bif dec (BlockP b/\WaivsP b l) then fileL N b l else []),()):=by
 refine Ret.eq ?_;unfold F_136;dsimp only;refine rb (q330 hN hs) (ri ?_ ?_) <;> intro h1
 .exact ra (by rw[q130 (fun h=>h1 h.1)]; rfl)
 obtain ⟨L,hL⟩:=q327 (u:=()) hN hs h1;refine rb hL (rb (q199 hN h1 L hl hw) (ri ?_ ?_)) <;> intro h2
 .exact ra (by rw[q130 (fun h=>h2 h.2)]; rfl)
 rw[dec_of ⟨h1,h2⟩,cond_true];have hall:∀ i,∀ w∈l.take i,WaivP b w:=fun i w hw=>by obtain ⟨j,hj,rfl⟩:=bc (List.mem_of_mem_take hw);exact h2.1 j hj
 have h12:=h2.2.2;refine Ret.upM 0 l.length (fun i s _=>s=B (fileL N b (l.take i))) (by omega) (by omega) (by omega) rfl ?_ ?_
 .rintro i s t next - hi rfl hnext
  dsimp only;have hlen:=q507 hN hs h1 (hall i);have hwl:=q265 hN hs h1 (h2.1 i hi);have hti:(l.take i).length<=12:=by rw[b8]; omega
  refine rh (by omega) (rg hi (rb (q177 hN hs h1 L (h2.1 i hi)) ?_));dsimp only;rw[show (⟨#[10]⟩:ByteArray)=B [10] from rfl];simp only[B_app];refine rj (by simp only[B_size,limS,aY,aF,List.length_nil]; omega) (rj (by simp only[B_size,limS,aY,aF,List.length_nil]; omega) ?_);exact hnext _ _ (by rw[q646 hi])
 .rintro s t next rfl
  dsimp only;refine rd (by omega) (ra ?_);rw[aP]
end
abbrev Src:Type:=List Int×Int×Int×Unit
def RngP(s:Src):Prop:=(0<=s.2.1/\s.1.length<4000000)/\(0<=s.2.2.1/\s.2.2.1<2147483647)/\∀ b∈s.1,BtwP 0 255 b
section
variable {N:Nat} (hN:HN N) {u:Unit}
theorem tmodB{a b:Int}(h0:0<=a)(hb:0<b):0<=a.tmod b/\a.tmod b<b:=⟨Int.tmod_nonneg b h0,Int.tmod_lt_of_pos a hb⟩
theorem q10{s:Src}(h:RngP s)(n:Int):Ret (F_0 N (s,n,u)) (fun r=>(0<=r.1.1/\(r.1.1=0\/r.1.1<n))/\RngP r.2):=by
 obtain ⟨code,at0,seed,u0⟩:=s;obtain ⟨⟨h1,h2⟩,⟨h3,h4⟩,h5⟩:=h;dsimp only at h1 h2 h3 h4 h5;unfold F_0;dsimp only;refine rf (fun hn=>ra ⟨⟨bF _,.inl rfl⟩,⟨h1,h2⟩,⟨h3,h4⟩,h5⟩) fun hn=>rf (fun ha=>?_) fun ha=>?_
 .have hlt:at0.toNat<code.length:=by omega
  refine va h1 hlt ?_;have hb:=h5 _ (aR hlt);unfold BtwP at hb;generalize code[at0.toNat]=e at hb |-;rw[wrapI (n:=e) (by omega) (by omega),wrapI (n:=at0+1) (by omega) (by omega)];refine rf (fun h6=>vb (by omega) (ra ?_)) fun h6=>vb (by omega) (ra ?_)
  .have:=tmodB (a:=e) (b:=n) hb.1 (by omega);exact ⟨⟨this.1,.inr this.2⟩,⟨by dsimp only; omega,h2⟩,⟨h3,h4⟩,h5⟩
  .rw[wrapI (n:=seed * 48271) (by omega) (by omega),wrapI (n:=seed * 48271+e) (by omega) (by omega),wrapI (n:=seed * 48271+e+1) (by omega) (by omega)];have k1:=tmodB (a:=seed * 48271+e+1) (b:=2147483647) (by omega) (by omega);have k2:=tmodB (a:=(seed * 48271+e+1).tmod 2147483647) (b:=n) k1.1 (by omega);exact ⟨⟨k2.1,.inr k2.2⟩,⟨by dsimp only; omega,h2⟩,k1,h5⟩
 .refine vb (by omega) (ra ?_);rw[wrapI (n:=seed * 48271) (by omega) (by omega),wrapI (n:=seed * 48271+11) (by omega) (by omega)];have k1:=tmodB (a:=seed * 48271+11) (b:=2147483647) (by omega) (by omega);have k3:0<=((seed * 48271+11).tmod 2147483647).tdiv 7/\((seed * 48271+11).tmod 2147483647).tdiv 7<=2147483647:=by rw[Int.tdiv_eq_ediv_of_nonneg k1.1];omega
  rw[wrapI (by omega) (by omega)];have k2:=tmodB (b:=n) k3.1 (by omega);exact ⟨⟨k2.1,.inr k2.2⟩,⟨h1,h2⟩,k1,h5⟩
theorem appOk{B M:Type}{R:M->Prop}{l:List B}{a:B}{x:Option M}(h:l.length<4000000)(h1:Ret x R):Ret (bif decide ((l++[a]).length<=lim) then x else none) R:=
 rj (by simp; unfold lim; omega) h1
theorem lenOk{B M:Type}{R:M->Prop}{l:List B}{x:Option M}(h:l.length<4000000)(h1:Ret x R):Ret (bif decide (l.length<=lim) then x else none) R:=
 rj (by unfold lim; omega) h1
include hN in
theorem q176{s:Src}(h:RngP s)(n:Int):Ret (F_1 N (s,n,u)) (fun r=>(1<=r.1.1.length/\r.1.1.length<=3)/\RngP r.2):=by
 unfold F_1;dsimp only;refine Ret.bind (q10 h n) ?_;rintro ⟨⟨a,u1⟩,s1⟩ ⟨_,hs1⟩;dsimp only at hs1 |-;refine Ret.bind (q10 hs1 3) ?_;rintro ⟨⟨c,u2⟩,s2⟩ ⟨hc,hs2⟩;dsimp only at hc hs2 |-;rw[wrapI (n:=1+c) (by omega) (by omega)];refine rz (I:=fun(s:Int×Int×Src×List Int×Unit)=>0<=s.2.1/\s.2.1+s.2.2.2.1.length=1+c/\RngP s.2.2.1) (T:=fun s=>s.2.1.toNat) ?_ N _ ⟨by dsimp only; omega,by simp,hs2⟩ (by dsimp only; omega);rintro ⟨at1,k,s',out,u3⟩ next ⟨h1,h2,h3⟩ hnext
 dsimp only at h1 h2 h3 |-;refine rf (fun hk=>?_) fun hk=>ra ⟨by dsimp only; omega,h3⟩;refine appOk (by omega) ?_;refine Ret.bind (q10 h3 n) ?_;rintro ⟨⟨d,u4⟩,s4⟩ ⟨_,hs4⟩;dsimp only at hs4 |-;rw[wrapI (n:=k - 1) (by omega) (by omega)];exact hnext _ ⟨by dsimp only; omega,by simp; omega,hs4⟩ (by dsimp only; omega)
include hN in
theorem q323{s:Src}(h:RngP s)(n:Int):Ret (F_2 N (s,n,u)) (fun r=>SmallT r.1.1/\RngP r.2):=by
 unfold F_2;dsimp only;refine Ret.bind (q176 hN h 60) ?_;rintro ⟨⟨sl,u1⟩,s1⟩ ⟨hsl,hs1⟩;dsimp only at hsl hs1 |-;refine Ret.bind (q176 hN hs1 40) ?_;rintro ⟨⟨ll,u2⟩,s2⟩ ⟨hll,hs2⟩;dsimp only at hll hs2 |-;have hm:sl.length * ll.length<=3 * 3:=bC hsl.2 hll.2;have hm':((sl.length:Int) * (ll.length:Int))=((sl.length * ll.length:Nat):Int):=by simp
 rw[hm',wrapI (n:=((sl.length * ll.length:Nat):Int)) (by omega) (by omega)];generalize hL:sl.length * ll.length=L at hm;refine rt L (fun i (s:Src×List Int×Unit)=>RngP s.1/\s.2.1.length=i) (by omega) (by omega) ⟨hs2,rfl⟩ ?_ ?_
 .rintro i ⟨s',vs,u3⟩ next hi ⟨h1,h2⟩ hnext
  dsimp only at h1 h2 hnext |-;refine rh (by omega) ?_;refine Ret.bind (q10 h1 10) ?_;rintro ⟨⟨d,u4⟩,s4⟩ ⟨hd,hs4⟩;dsimp only at hs4 |-;refine vb (by omega) ?_;have hmod:((i:Int).tmod (ll.length:Int))=((i % ll.length:Nat):Int):=rfl;rw[hmod];have hz:0<i % ll.length->1<=i:=fun h=>by
   rcases Nat.eq_zero_or_pos i with h0 | h0
   .subst h0; simp at h
   .exact h0
  refine rf (fun hp=>?_) fun hp=>?_
  .have hi1:=hz (by omega);rw[wrapI (n:=(i:Int) - 1) (by omega) (by omega)];refine rq (by omega) (by omega) (rl (by omega) ?_);refine Ret.bind (q10 hs4 20) ?_;rintro ⟨⟨d5,u5⟩,s5⟩ ⟨_,hs5⟩;dsimp only at hs5 |-;refine rf (fun hq=>?_) fun hq=>?_
   .rw[wrapI (n:=(i:Int) - (ll.length:Int)) (by omega) (by omega)];refine rq (by omega) (by omega) (rl (by omega) ?_);refine Ret.bind (q10 hs5 20) ?_;rintro ⟨⟨d6,u6⟩,s6⟩ ⟨_,hs6⟩;dsimp only at hs6 |-;exact appOk (by omega) (hnext _ ⟨hs6,by simp; omega⟩)
   .exact appOk (by omega) (hnext _ ⟨hs5,by simp; omega⟩)
  .refine rf (fun hq=>?_) fun hq=>?_
   .rw[wrapI (n:=(i:Int) - (ll.length:Int)) (by omega) (by omega)];refine rq (by omega) (by omega) (rl (by omega) ?_);refine Ret.bind (q10 hs4 20) ?_;rintro ⟨⟨d6,u6⟩,s6⟩ ⟨_,hs6⟩;dsimp only at hs6 |-;exact appOk (by omega) (hnext _ ⟨hs6,by simp; omega⟩)
   .exact appOk (by omega) (hnext _ ⟨hs4,by simp; omega⟩)
 .rintro ⟨s',vs,u3⟩ next ⟨h1,h2⟩
  dsimp only at h1 h2 |-;refine rd (by omega) (ra ⟨⟨?_,?_,?_⟩,h1⟩) <;> dsimp only <;> omega
include hN in
theorem q89{s:Src}(h:RngP s)(n:Int):Ret (F_3 N (s,n,u)) (fun r=>q380 r.1.1/\RngP r.2):=by
 unfold F_3;dsimp only;refine Ret.bind (q323 hN h n) ?_;rintro ⟨⟨t1,u1⟩,s1⟩ ⟨h1,hs1⟩;dsimp only at h1 hs1 |-;refine Ret.bind (q323 hN hs1 n) ?_;rintro ⟨⟨t2,u2⟩,s2⟩ ⟨h2,hs2⟩;refine ra ⟨⟨by simp,fun t ht=>?_⟩,hs2⟩;simp only[aw,bd,or_false] at ht;rcases ht with rfl | rfl
 .exact h1
 .exact h2
include hN in
theorem q67{s:Src}(h:RngP s)(k a b c:Int):Ret (F_4 N (s,k,a,b,c,u)) (fun r=>SmallA r.1.1/\RngP r.2):=by
 unfold F_4;dsimp only;refine rf (fun _=>?_) fun _=>?_
 .refine Ret.bind (q10 h 10) ?_;rintro ⟨⟨d,u1⟩,s1⟩ ⟨_,hs1⟩;dsimp only at hs1 |-;refine Ret.bind (q89 hN hs1 _) ?_;rintro ⟨⟨ts,u2⟩,s2⟩ ⟨h2,hs2⟩;exact ra ⟨⟨h2,by simp,by simp⟩,hs2⟩
 .refine Ret.bind (q10 h 20) ?_;rintro ⟨⟨d,u1⟩,s1⟩ ⟨_,hs1⟩;dsimp only at hs1 |-;refine Ret.bind (q89 hN hs1 _) ?_;rintro ⟨⟨ts,u2⟩,s2⟩ ⟨h2,hs2⟩;dsimp only at h2 hs2 |-;refine Ret.bind (q89 hN hs2 _) ?_;rintro ⟨⟨ts3,u3⟩,s3⟩ ⟨h3,hs3⟩;exact ra ⟨⟨h2,h3⟩,hs3⟩
def q286(N:Nat)(t:List Int)(k:Nat):Prop:=∀(a:ByteArray)(b:Int)(c:List DPin)(d:List DArc)(e f:Int)(u v:Unit)(pin:Nat),pin<k->∃ r,F_25 N ((a,b,c,d,t,e,f,u),(pin:Int),v)=some r
include hN in
theorem q102{s:Src}(h:RngP s){nm:ByteArray}(hnm:nm.size<4000000){t:List Int}{K:Nat}(hK:(t.length=2/\K=1)\/(t.length=4/\K=2)\/(t.length=8/\K=3))(hS:q286 N t K):
 Ret (F_5 N (s,nm,t,u)) (fun r=>SmallC r.1.1/\RngP r.2):=by
 unfold F_5;dsimp only;refine Ret.bind (q10 h 50) ?_;rintro ⟨⟨d1,u1⟩,s1⟩ ⟨_,hs1⟩;dsimp only at hs1 |-;refine Ret.bind (q10 hs1 80) ?_;rintro ⟨⟨d2,u2⟩,s2⟩ ⟨_,hs2⟩;dsimp only at hs2 |-;refine rz (I:=fun(s:Int×Src×List DPin×Unit)=>((s.1=1/\s.2.2.1.length=0)\/(s.1=2/\s.2.2.1.length=1)\/(s.1=4/\s.2.2.1.length=2)\/(s.1=8/\s.2.2.1.length=3))/\s.1<=t.length/\RngP s.2.1/\∀ p∈s.2.2.1,p.1.size<4000000) (T:=fun s=>(16 - s.1).toNat) ?_ N _ ⟨.inl ⟨rfl,rfl⟩,by dsimp only; omega,hs2,by simp⟩ (by dsimp only; omega);rintro ⟨n,s3,pins,u3⟩ next ⟨h1,h2,h3,h4⟩ hnext
 dsimp only at h1 h2 h3 h4 |-;refine rf (fun hn=>?_) fun hn=>?_
 .have hl:pins.length<[(⟨#[97]⟩:ByteArray),(⟨#[98]⟩:ByteArray),(⟨#[99]⟩:ByteArray),(⟨#[100]⟩:ByteArray)].length:=by simp; omega
  refine rk hl ?_;have e0:((pins.length:Int)).toNat=pins.length:=by omega
  rw[e0];refine rl hl ?_;have hnm:([(⟨#[97]⟩:ByteArray),(⟨#[98]⟩:ByteArray),(⟨#[99]⟩:ByteArray),(⟨#[100]⟩:ByteArray)][pins.length]).size<4000000:=by have:=aR hl;simp only[aw,bd,or_false] at this;rcases this with h | h | h | h <;> rw[h] <;> decide
  refine Ret.bind (q10 h3 9) ?_;rintro ⟨⟨d5,u5⟩,s5⟩ ⟨_,hs5⟩;dsimp only at hs5 |-;refine appOk (by omega) ?_;rw[wrapI (n:=2 * n) (by omega) (by omega)];refine hnext _ ⟨by simp only[aY,aF,List.length_nil]; omega,by dsimp only; omega,hs5,fun p hp=>?_⟩ (by dsimp only; omega);rcases aZ.1 hp with hp | hp
  .exact h4 p hp
  .simp only[aw,bd,or_false] at hp;subst hp; exact hnm
 .refine appOk (by omega) ?_;have hpk:pins.length=K:=by omega
  refine rt pins.length (fun i (s:Src×List DArc×Unit)=>RngP s.1/\s.2.1.length<=i/\∀ a∈s.2.1,SmallA a) (by omega) (by omega) ⟨h3,by simp,by simp⟩ ?_ ?_
  .rintro i ⟨s',arcs,u6⟩ next2 hi ⟨g1,g2,g3⟩ hnext2;dsimp only at g1 g2 g3 hnext2 |-;refine rh (by omega) ?_;obtain ⟨r,hr⟩:=hS nm 1 (pins++[((⟨#[121]⟩:ByteArray),(2:Int),(0:Int),false,())]) [] d1 d2 u2 () i (by omega);refine rb hr ?_;refine rn (fun _=>?_) fun _=>hnext2 _ ⟨g1,by dsimp only; omega,g3⟩;refine Ret.bind (q67 hN g1 _ _ _ _) ?_;rintro ⟨⟨ac,u7⟩,s7⟩ ⟨ha,hs7⟩;dsimp only at ha hs7 |-;refine appOk (by omega) (hnext2 _ ⟨hs7,by simp; omega,fun a hp=>?_⟩);rcases aZ.1 hp with hp | hp
   .exact g3 a hp
   .simp only[aw,bd,or_false] at hp;subst hp; exact ha
  .rintro ⟨s',arcs,u6⟩ next2 ⟨g1,g2,g3⟩;dsimp only at g1 g2 g3 |-;refine rd (by omega) (ra ⟨⟨hnm,⟨by simp; omega,fun p hp=>?_⟩,⟨by dsimp only; omega,g3⟩,by dsimp only; omega⟩,g1⟩);rcases aZ.1 hp with hp | hp
   .exact h4 p hp
   .simp only[aw,bd,or_false] at hp;subst hp; show (ByteArray.mk #[121]).size<4000000; decide
include hN in
theorem q104{s:Src}(h:RngP s){nm:ByteArray}(hnm:nm.size<4000000)(k e:Int):Ret (F_6 N (s,nm,k,e,u)) (fun r=>SmallC r.1.1/\RngP r.2):=by
 unfold F_6;dsimp only;refine Ret.bind (q10 h 50) ?_;rintro ⟨⟨d1,u1⟩,s1⟩ ⟨_,hs1⟩;dsimp only at hs1 |-;refine Ret.bind (q10 hs1 80) ?_;rintro ⟨⟨d2,u2⟩,s2⟩ ⟨_,hs2⟩;dsimp only at hs2 |-;refine Ret.bind (q10 hs2 9) ?_;rintro ⟨⟨d3,u3⟩,s3⟩ ⟨_,hs3⟩;dsimp only at hs3 |-;refine Ret.bind (q10 hs3 9) ?_;rintro ⟨⟨d4,u4⟩,s4⟩ ⟨_,hs4⟩;dsimp only at hs4 |-;refine Ret.bind (q67 hN hs4 _ _ _ _) ?_;rintro ⟨⟨a5,u5⟩,s5⟩ ⟨ha5,hs5⟩;dsimp only at ha5 hs5 |-;refine Ret.bind (q67 hN hs5 _ _ _ _) ?_;rintro ⟨⟨a6,u6⟩,s6⟩ ⟨ha6,hs6⟩;dsimp only at ha6 hs6 |-;refine Ret.bind (q67 hN hs6 _ _ _ _) ?_;rintro ⟨⟨a7,u7⟩,s7⟩ ⟨ha7,hs7⟩;dsimp only at ha7 hs7 |-;have hp:∀(x y:Int),q164 [((⟨#[100]⟩:ByteArray),(1:Int),x,false,()),((⟨#[99,107]⟩:ByteArray),(1:Int),y,true,()),((⟨#[113]⟩:ByteArray),(2:Int),(0:Int),false,())]:=fun x y=>⟨by simp,fun p hp=>by simp only[aw,bd,or_false] at hp;rcases hp with rfl | rfl | rfl <;> (dsimp only; decide)⟩;refine rf (fun _=>?_) fun _=>?_
 .refine Ret.bind (q67 hN hs7 _ _ _ _) ?_;rintro ⟨⟨a8,u8⟩,s8⟩ ⟨ha8,hs8⟩;dsimp only at ha8 hs8 |-;refine appOk (by simp) (ra ⟨⟨hnm,hp _ _,⟨by simp,fun a ha=>?_⟩,by simp⟩,hs8⟩);simp only[aZ,aw,bd,or_false] at ha;rcases ha with (rfl | rfl | rfl) | rfl <;> assumption
 .refine ra ⟨⟨hnm,hp _ _,⟨by simp,fun a ha=>?_⟩,by simp⟩,hs7⟩;simp only[aw,bd,or_false] at ha;rcases ha with rfl | rfl | rfl <;> assumption
end
set_option maxHeartbeats 2000000
open Go.RowKit
section
variable {N:Nat} (hN:HN N) {u:Unit}
theorem q668(M:Nat):q286 (M+16) [1,0] 1:=fun a b c d e f u v pin hp=>by
 obtain rfl:pin=0:=by omega
 exact ⟨(2,()),by kernel_rfl⟩
theorem q656(M:Nat):q286 (M+16) [0,1] 1:=fun a b c d e f u v pin hp=>by
 obtain rfl:pin=0:=by omega
 exact ⟨(1,()),by kernel_rfl⟩
theorem q635(M:Nat):q286 (M+16) [1,1,1,0] 2:=fun a b c d e f u v pin hp=>by
 rcases (show pin=0\/pin=1 by omega) with rfl | rfl
 .exact ⟨(2,()),by kernel_rfl⟩
 .exact ⟨(2,()),by kernel_rfl⟩
theorem q677(M:Nat):q286 (M+16) [0,1,1,0] 2:=fun a b c d e f u v pin hp=>by
 rcases (show pin=0\/pin=1 by omega) with rfl | rfl
 .exact ⟨(3,()),by kernel_rfl⟩
 .exact ⟨(3,()),by kernel_rfl⟩
theorem q672(M:Nat):q286 (M+16) [0,1,0,1,0,0,1,1] 3:=fun a b c d e f u v pin hp=>by
 rcases (show pin=0\/pin=1\/pin=2 by omega) with rfl | rfl | rfl
 .exact ⟨(1,()),by kernel_rfl⟩
 .exact ⟨(1,()),by kernel_rfl⟩
 .exact ⟨(3,()),by kernel_rfl⟩
include hN in
theorem q476{s:Src}(h:RngP s):Ret (F_7 N (s,u)) (fun r=>SmallL r.1.1/\RngP r.2):=by unfold F_7;dsimp only;obtain ⟨M,rfl⟩:∃ M,N=M+16:=⟨N - 16,by omega⟩;refine Ret.bind (q102 hN h (by decide) (.inl ⟨rfl,rfl⟩) (q668 M)) ?_;rintro ⟨⟨c1,u1⟩,s1⟩ ⟨h1,hs1⟩;dsimp only at h1 hs1 |-;refine Ret.bind (q102 hN hs1 (by decide) (.inl ⟨rfl,rfl⟩) (q656 M)) ?_;rintro ⟨⟨c2,u2⟩,s2⟩ ⟨h2,hs2⟩;dsimp only at h2 hs2 |-;refine Ret.bind (q102 hN hs2 (by decide) (.inr (.inl ⟨rfl,rfl⟩)) (q635 M)) ?_;rintro ⟨⟨c3,u3⟩,s3⟩ ⟨h3,hs3⟩;dsimp only at h3 hs3 |-;refine Ret.bind (q102 hN hs3 (by decide) (.inr (.inl ⟨rfl,rfl⟩)) (q677 M)) ?_;rintro ⟨⟨c4,u4⟩,s4⟩ ⟨h4,hs4⟩;dsimp only at h4 hs4 |-;refine Ret.bind (q102 hN hs4 (by decide) (.inr (.inr ⟨rfl,rfl⟩)) (q672 M)) ?_;rintro ⟨⟨c5,u5⟩,s5⟩ ⟨h5,hs5⟩;dsimp only at h5 hs5 |-;refine Ret.bind (q104 hN hs5 (by decide) _ _) ?_;rintro ⟨⟨c6,u6⟩,s6⟩ ⟨h6,hs6⟩;dsimp only at h6 hs6 |-;refine Ret.bind (q104 hN hs6 (by decide) _ _) ?_;rintro ⟨⟨c7,u7⟩,s7⟩ ⟨h7,hs7⟩;dsimp only at h7 hs7 |-;refine Ret.bind (q104 hN hs7 (by decide) _ _) ?_;rintro ⟨⟨c8,u8⟩,s8⟩ ⟨h8,hs8⟩;dsimp only at h8 hs8 |-;refine ra ⟨⟨by simp,fun c hc=>?_⟩,hs8⟩;simp only[aw,bd,or_false] at hc;rcases hc with rfl | rfl | rfl | rfl | rfl | rfl | rfl | rfl <;> assumption
theorem q347(n:Int):(strOf [n]).size=1:=by simp[strOf]
theorem q734(M:Nat){n:Nat}(hn:n<100):Ret (F_8 N (M+3) ((n:Int),u)) (fun r=>r.1.size<=2):=by
 unfold F_8;dsimp only;refine rd (by omega) ?_;refine rf (fun _=>ra (by dsimp only; rw[q347]; omega)) fun h10=>?_;have hd:((n:Int).tdiv 10)=((n / 10:Nat):Int):=rfl;rw[hd,wrapI (n:=((n / 10:Nat):Int)) (by omega) (by omega)];refine Ret.bind (Q:=fun r=>r.1.size<=1) ?_ ?_
 .unfold F_8;dsimp only;refine rd (by omega) (rh (by omega) (ra ?_));dsimp only;rw[q347]; omega
 .rintro ⟨t,u2⟩ ht;dsimp only at ht |-;refine rj (by rw[q347]; unfold limS; omega) (ra ?_);dsimp only;rw[ByteArray.size_append,q347]; omega
def InsQ(x:DInstance):Prop:=x.1.size<100/\1<=x.2.2.1.length/\x.2.2.1.length<=5
def DesQ(d:DDesign):Prop:=(d.1.length<=10/\∀ x∈d.1,InsQ x)/\(3<=d.2.1.length/\d.2.1.length<=20/\∀ s∈d.2.1,s.size<100)/\(1<=d.2.2.1.length/\d.2.2.1.length<=6/\∀ p∈d.2.2.1,p.1.size<100)
theorem q345{d:DDesign}(h:DesQ d):Few d:=⟨by have:=h.1.1; omega,fun x hx=>(h.1.2 x hx).2.2,by have:=h.2.2.2.1; omega⟩
theorem q288{d:DDesign}(h:DesQ d):SmallD d:=
 ⟨⟨by have:=h.1.1; omega,fun x hx=>⟨by have:=(h.1.2 x hx).1; omega,by have:=(h.1.2 x hx).2.2; omega⟩⟩,⟨by have:=h.2.1.2.1; omega,fun s hs=>by have:=h.2.1.2.2 s hs; omega⟩,⟨by have:=h.2.2.2.1; omega,fun p hp=>by have:=h.2.2.2.2 p hp; omega⟩⟩
theorem q132{B:Type}{P:B->Prop}{l:List B}{a:B}(h:∀ x∈l,P x)(ha:P a):∀ x∈l++[a],P x:=fun x hx=>by
 rcases aZ.1 hx with hx | hx
 .exact h x hx
 .simp only[aw,bd,or_false] at hx;subst hx; exact ha
theorem q291{B:Type}{P:B->Prop}{l:List B}{a:B}{i:Nat}(h:∀ x∈l,P x)(ha:P a):∀ x∈l.set i a,P x:=fun x hx=>by
 rcases List.mem_or_eq_of_mem_set hx with hx | rfl
 .exact h x hx
 .exact ha
include hN in
theorem q483{s:Src}(h:RngP s){most:Int}(hm:2<=most/\most<=10)(wild:Bool):Ret (F_9 N (s,most,wild,u)) (fun r=>DesQ r.1.1/\RngP r.2):=by
 unfold F_9;dsimp only;refine lenOk (by simp) ?_;rw[wrapI (n:=most - 1) (by omega) (by omega)];refine Ret.bind (q10 h (most - 1)) ?_;rintro ⟨⟨d1,u1⟩,s1⟩ ⟨hd1,hs1⟩;dsimp only at hd1 hs1 |-;rw[wrapI (n:=2+d1) (by omega) (by omega)]
 refine rz (I:=fun(s:Int×Src×List DInstance×List ByteArray×Unit)=>(0<=s.1/\s.1+s.2.2.1.length=2+d1)/\RngP s.2.1/\s.2.2.2.1.length=3+s.2.2.1.length/\(∀ x∈s.2.2.1,InsQ x)/\∀ n∈s.2.2.2.1,n.size<100) (T:=fun s=>s.1.toNat) ?_ N _
  ⟨⟨by dsimp only; omega,by simp⟩,hs1,by simp,by simp,fun n hn=>by simp only[List.nil_append,aw,bd,or_false] at hn;rcases hn with rfl | rfl | rfl <;> decide⟩ (by dsimp only; omega)
 rintro ⟨n,s2,insts,nets,u2⟩ next ⟨⟨hn0,hn1⟩,hs2,hnl,hins,hnets⟩ hnext
 dsimp only at hn0 hn1 hs2 hnl hins hnets |-;refine rf (fun hn=>?_) fun hn=>?_
 .refine Ret.bind (q10 hs2 12) ?_;rintro ⟨⟨c,u3⟩,s3⟩ ⟨hc,hs3⟩;dsimp only at hc hs3 |-;have hcl:c.toNat<[(0:Int),(1:Int),(2:Int),(2:Int),(3:Int),(4:Int),(5:Int),(5:Int),(5:Int),(6:Int),(7:Int),(1:Int)].length:=by simp; omega
  refine rq hc.1 (by omega) (rl hcl ?_);have hce:∀ v∈[(0:Int),(1:Int),(2:Int),(2:Int),(3:Int),(4:Int),(5:Int),(5:Int),(5:Int),(6:Int),(7:Int),(1:Int)],0<=v/\v<=7:=by decide
  have hce:=hce _ (aR hcl);generalize [(0:Int),(1:Int),(2:Int),(2:Int),(3:Int),(4:Int),(5:Int),(5:Int),(5:Int),(6:Int),(7:Int),(1:Int)][c.toNat]=cell at hce |-;obtain ⟨M,hM⟩:∃ M,N=M+3:=⟨N - 3,by omega⟩;have hnum:∀(k:Nat),k<100->Ret (F_8 N N ((k:Int),())) (fun r=>r.1.size<=2):=fun k hk=>by
   have:=q734 (N:=N) (u:=()) M hk
   rwa [<- hM] at this
  refine Ret.bind (hnum insts.length (by omega)) ?_;rintro ⟨nm,u4⟩ hnm;dsimp only at hnm |-;refine rj (by show 1+nm.size<=limS; unfold limS; omega) ?_;have hpl:cell.toNat<[(2:Int),(2:Int),(3:Int),(3:Int),(4:Int),(3:Int),(3:Int),(3:Int)].length:=by simp; omega
  have hpe:∀ v∈[(2:Int),(2:Int),(3:Int),(3:Int),(4:Int),(3:Int),(3:Int),(3:Int)],2<=v/\v<=4:=by decide
  have hpe:=hpe _ (aR hpl);have hpg:[(2:Int),(2:Int),(3:Int),(3:Int),(4:Int),(3:Int),(3:Int),(3:Int)][cell.toNat]?=some [(2:Int),(2:Int),(3:Int),(3:Int),(4:Int),(3:Int),(3:Int),(3:Int)][cell.toNat]:=aW hpl;generalize [(2:Int),(2:Int),(3:Int),(3:Int),(4:Int),(3:Int),(3:Int),(3:Int)][cell.toNat]=p at hpe hpg
  refine rz (I:=fun(s:Int×Src×(ByteArray×Int×Unit)×List Int×Unit)=>(0<=s.1/\s.1<=p - 1)/\RngP s.2.1/\s.2.2.1.1.size<100/\(s.2.2.2.1.length:Int)=s.1) (T:=fun s=>(p - 1 - s.1).toNat) ?_ N _
   ⟨⟨by dsimp only; omega,by dsimp only; omega⟩,hs3,by dsimp only; rw[ByteArray.size_append]; show 1+nm.size<100; omega,by simp⟩ (by dsimp only; omega)
  rintro ⟨pin,s4,⟨x1,x2,u5⟩,xn,u6⟩ next2 ⟨⟨hp0,hp1⟩,hs4,hx1,hxn⟩ hnext2;dsimp only at hp0 hp1 hs4 hx1 hxn |-;refine rq hce.1 (by simp; omega) (rb hpg ?_);rw[wrapI (n:=p - 1) (by omega) (by omega)];have leaf:∀{v:Int}{s5:Src}{y:Option ((DDesign×Unit)×Src)},RngP s5->pin<p - 1->y=next2 (wq (pin+1),s5,(x1,x2,u5),(([]++xn)++[v]),())->Ret (bif decide (([]++xn).length<=lim) then (bif decide ((([]++xn)++[v]).length<=lim) then y else none) else none) (fun r=>DesQ r.1.1/\RngP r.2):=fun {v s5 y} hs5 hlt hy=>by refine lenOk (by simp; omega) (appOk (by simp; omega) ?_);rw[hy,wrapI (n:=pin+1) (by omega) (by omega)];exact hnext2 _ ⟨⟨by dsimp only; omega,by dsimp only; omega⟩,hs5,hx1,by simp; omega⟩ (by dsimp only; omega)
  refine rf (fun hlt=>?_) fun hge=>?_
  .refine Ret.bind (q10 hs4 _) ?_;rintro ⟨⟨a1,u7⟩,s5⟩ ⟨_,hs5⟩;dsimp only at hs5 |-;refine Ret.bind (q10 hs5 3) ?_;rintro ⟨⟨a2,u8⟩,s6⟩ ⟨_,hs6⟩;dsimp only at hs6 |-;refine rf (fun _=>rf (fun _=>rf (fun _=>leaf hs6 hlt rfl) fun _=>leaf hs6 hlt rfl) fun _=>leaf hs6 hlt rfl) fun _=>rf (fun _=>rf (fun _=>leaf hs6 hlt rfl) fun _=>leaf hs6 hlt rfl) fun _=>leaf hs6 hlt rfl
  .refine lenOk (by simp; omega) (appOk (by simp; omega) ?_);refine Ret.bind (hnum nets.length (by omega)) ?_;rintro ⟨nm2,u7⟩ hnm2;dsimp only at hnm2 |-;refine rj (by show 1+nm2.size<=limS; unfold limS; omega) ?_;refine appOk (by omega) (appOk (by omega) ?_);rw[wrapI (n:=n - 1) (by omega) (by omega)];refine hnext _ ⟨⟨by dsimp only; omega,by simp; omega⟩,hs4,by simp; omega,q132 hins ⟨hx1,by simp,by simp; omega⟩,q132 hnets ?_⟩ (by dsimp only; omega);rw[ByteArray.size_append];show 1+nm2.size<100;omega
 .have hnz:n=0:=by omega
  refine rt insts.length (fun i (s:Src×List DInstance×Unit)=>RngP s.1/\s.2.1.length=insts.length/\∀ x∈s.2.1,InsQ x) (by omega) (by omega) ⟨hs2,rfl,hins⟩ ?_ ?_
  .rintro i ⟨s3,ins,u3⟩ next2 hi ⟨hs3,hl,hq⟩ hnext2;dsimp only at hs3 hl hq hnext2 |-;have hi':i<ins.length:=by omega
   have e0:((i:Int)).toNat=i:=by omega
   have leaf:∀{s5:Src}{y:Src->List DInstance->Option ((DDesign×Unit)×Src)},RngP s5->(∀ s6 l,y s6 l=next2 (wq ((i:Int)+1),s6,l,()))->Ret (bif inI (i:Int) ins.length then obind (ins[(i:Int).toNat]?) fun _=>obind (F_0 N (s5,(wq ((nets.length:Int) - (1:Int))),())) fun r51=>obind (ins[(i:Int).toNat]?) fun e52=>
    (bif inI (0:Int) e52.2.2.1.length then obind (ins[(i:Int).toNat]?) fun e53=>obind (e53.2.2.1[(0:Int).toNat]?) fun _=>y r51.2 (ins.set (i:Int).toNat (e53.1,e53.2.1,(e53.2.2.1.set ((0:Int).toNat) (wq ((1:Int)+r51.1.1))),())) else none) else none) (fun r=>DesQ r.1.1/\RngP r.2):=fun {s5 y} hs5 hy=>by
    have hx:=hq _ (aR hi');rw[e0];refine rk hi' (rl hi' ?_);refine Ret.bind (q10 hs5 _) ?_;rintro ⟨⟨a1,u7⟩,s6⟩ ⟨_,hs6⟩;dsimp only at hs6 |-;refine rl hi' (rq (by omega) (by have:=hx.2.1; omega) (rl hi' (rl (by have:=hx.2.1; show 0<_; omega) ?_)));rw[hy];exact hnext2 _ ⟨hs6,by simpa using hl,q291 hq ⟨hx.1,by simpa using hx.2.1,by simpa using hx.2.2⟩⟩
   refine rh (by omega) ?_;refine Ret.bind (q10 hs3 4) ?_;rintro ⟨⟨a1,u7⟩,s5⟩ ⟨_,hs5⟩;dsimp only at hs5 |-;refine rf (fun _=>?_) fun _=>hnext2 _ ⟨hs5,hl,hq⟩;refine rk hi' ?_;refine rb (show ins[(i:Int).toNat]?=some ins[i] by rw[e0]; exact aW hi') ?_;refine rf (fun _=>leaf (y:=fun s6 l=>next2 (wq ((i:Int)+1),s6,l,())) hs5 fun _ _=>rfl) fun _=>?_;refine rk hi' ?_;refine rb (show ins[(i:Int).toNat]?=some ins[i] by rw[e0]; exact aW hi') ?_;refine rf (fun _=>leaf (y:=fun s6 l=>next2 (wq ((i:Int)+1),s6,l,())) hs5 fun _ _=>rfl) fun _=>?_;exact ry (fun _=>leaf (y:=fun s6 l=>next2 (wq ((i:Int)+1),s6,l,())) hs5 fun _ _=>rfl) fun _=>hnext2 _ ⟨hs5,hl,hq⟩
  .rintro ⟨s3,ins,u3⟩ next2 ⟨hs3,hl,hq⟩;dsimp only at hs3 hl hq |-;refine rd (by omega) ?_;refine lenOk (by simp) (appOk (by simp) ?_);have hpo:∀(x:Int),∀ p∈([]++[((⟨#[99,107]⟩:ByteArray),(1:Int),(0:Int),()),((⟨#[97]⟩:ByteArray),(1:Int),(1:Int),()),((⟨#[98]⟩:ByteArray),(1:Int),(2:Int),())])++[((⟨#[121]⟩:ByteArray),(2:Int),x,())],p.1.size<100:=fun x p hp=>by simp only[List.nil_append,aZ,aw,bd,or_false] at hp;rcases hp with (rfl | rfl | rfl) | rfl <;> (dsimp only; decide)
   refine Ret.bind (q10 hs3 2) ?_;rintro ⟨⟨a1,u7⟩,s5⟩ ⟨_,hs5⟩;dsimp only at hs5 |-;refine rf (fun _=>?_) fun _=>?_
   .refine Ret.bind (q10 hs5 _) ?_;rintro ⟨⟨a2,u8⟩,s6⟩ ⟨_,hs6⟩;dsimp only at hs6 |-;refine appOk (by simp) (ra ⟨⟨⟨by dsimp only; omega,hq⟩,⟨by dsimp only; omega,by dsimp only; omega,hnets⟩,⟨by simp,by simp,q132 (hpo _) (by show (ByteArray.mk #[122]).size<100; decide)⟩⟩,hs6⟩)
   .exact ra ⟨⟨⟨by dsimp only; omega,hq⟩,⟨by dsimp only; omega,by dsimp only; omega,hnets⟩,⟨by simp,by simp,hpo _⟩⟩,hs5⟩
end
section
variable {N:Nat} (hN:HN N) {u:Unit}
theorem q662{d:DDesign}(h:Few d)(k:Int):(sinksL d k).length<=78:=by rw[q314];unfold q127;exact bn bu (q50 h)
theorem q624{M:Type}{R:M->Prop}{n:Nat}{x:Option M}(h:n<4000000)(h1:Ret x R):Ret (bif (decide (0<=(n:Int)) && (decide ((n:Int)<=(lim:Int)) && decide ((n:Int)=(n:Int)))) then x else none) R:=
 rm ⟨by omega,by unfold lim; omega,rfl⟩ h1
def WirQ(w:DWire):Prop:=(1<=w.1.length/\w.1.length<=8)/\(1<=w.2.1.length/\w.2.1.length<=8)/\(1<=w.2.2.1.length/\w.2.2.1.length<=8)/\w.2.2.2.1.length<=200
theorem q305{w:DWire}(h:WirQ w):SmallW w:=⟨by have:=h.1.2; omega,by have:=h.2.1.2; omega,by have:=h.2.2.1.2; omega,by have:=h.2.2.2; omega⟩
theorem q439(l:List Int)(hl:l.length<4000000):F_29 N (l,u)=some (l,()):=by refine Ret.eq ?_;unfold F_29;dsimp only;exact lenOk (by simpa using hl) (ra (by simp))
include hN in
theorem q343{s:Src}(h:RngP s){k:Nat}(hk:k<=100):Ret (F_10 N (s,(k:Int),u)) (fun r=>WirQ r.1.1/\RngP r.2):=by
 unfold F_10;dsimp only;refine Ret.bind (q10 h 6) ?_;rintro ⟨⟨d1,u1⟩,s1⟩ ⟨_,hs1⟩;dsimp only at hs1 |-;refine Ret.bind (Q:=fun r=>r.1=([-1],[0],[d1],List.replicate k 0,())) ?_ ?_
 .unfold F_28;dsimp only;refine q624 (by omega) (ra ?_);simp
 rintro ⟨w,u2⟩ rfl;dsimp only;refine Ret.bind (q10 hs1 4) ?_;rintro ⟨⟨d3,u3⟩,s3⟩ ⟨hd3,hs3⟩;dsimp only at hd3 hs3 |-
 refine rz (I:=fun(s:Int×Src×List Int×List Int×List Int×Unit×Unit)=>(0<=s.1/\s.1+s.2.2.1.length=1+d3)/\RngP s.2.1/\1<=s.2.2.1.length/\s.2.2.2.1.length=s.2.2.1.length/\s.2.2.2.2.1.length=s.2.2.1.length) (T:=fun s=>s.1.toNat) ?_ N _
  ⟨⟨by dsimp only; omega,by simp; omega⟩,hs3,by simp,by simp,by simp⟩ (by dsimp only; omega)
 rintro ⟨n,s4,pa,re,ca,u4,u5⟩ next ⟨⟨hn0,hn1⟩,hs4,h1,h2,h3⟩ hnext
 dsimp only at hn0 hn1 hs4 h1 h2 h3 |-;refine rf (fun hn=>?_) fun hn=>?_
 .refine rb (q439 pa (by omega)) ?_;refine Ret.bind (q10 hs4 _) ?_;rintro ⟨⟨a1,u7⟩,s5⟩ ⟨_,hs5⟩;dsimp only at hs5 |-;refine appOk (by omega) (rb (q439 re (by omega)) ?_);refine Ret.bind (q10 hs5 _) ?_;rintro ⟨⟨a2,u8⟩,s6⟩ ⟨_,hs6⟩;dsimp only at hs6 |-;refine appOk (by omega) (rb (q439 ca (by omega)) ?_);refine Ret.bind (q10 hs6 _) ?_;rintro ⟨⟨a3,u9⟩,s7⟩ ⟨_,hs7⟩;dsimp only at hs7 |-;refine appOk (by omega) ?_;rw[wrapI (n:=n - 1) (by omega) (by omega)];exact hnext _ ⟨⟨by dsimp only; omega,by simp; omega⟩,hs7,by simp,by simpa using h2,by simpa using h3⟩ (by dsimp only; omega)
 .refine rt k (fun i (s:Src×List Int×Unit)=>RngP s.1/\s.2.1.length=k) (by omega) (by omega) ⟨hs4,by simp⟩ ?_ ?_
  .rintro i ⟨s5,sk,u6⟩ next2 hi ⟨hs5,hl⟩ hnext2;dsimp only at hs5 hl hnext2 |-;refine rh (by omega) ?_;refine Ret.bind (q10 hs5 _) ?_;rintro ⟨⟨a1,u7⟩,s6⟩ ⟨_,hs6⟩;dsimp only at hs6 |-;refine rk (by omega) (rl (by omega) ?_);exact hnext2 _ ⟨hs6,by simpa using hl⟩
  .rintro ⟨s5,sk,u6⟩ next2 ⟨hs5,hl⟩;dsimp only at hs5 hl |-;exact rd (by omega) (ra ⟨⟨⟨h1,by dsimp only; omega⟩,⟨by dsimp only; omega,by dsimp only; omega⟩,⟨by dsimp only; omega,by dsimp only; omega⟩,by dsimp only; omega⟩,hs5⟩)
def BlkQ(b:DBlock):Prop:=SmallL b.1/\DesQ b.2.1/\(3<=b.2.2.1.length/\b.2.2.1.length<=20/\∀ w∈b.2.2.1,WirQ w)
theorem q620{b:DBlock}(h:BlkQ b):SmallB b:=⟨h.1,q288 h.2.1,by have:=h.2.2.2.1; omega,fun w hw=>q305 (h.2.2.2.2 w hw)⟩
include hN in
theorem q331{s:Src}(h:RngP s){most:Int}(hm:2<=most/\most<=10)(wild:Bool):Ret (F_11 N (s,most,wild,u)) (fun r=>BlkQ r.1.1/\RngP r.2):=by
 unfold F_11;dsimp only;refine Ret.bind (q476 hN h) ?_;rintro ⟨⟨l,u1⟩,s1⟩ ⟨hl,hs1⟩;dsimp only at hl hs1 |-;refine Ret.bind (q483 hN hs1 hm wild) ?_;rintro ⟨⟨d,u2⟩,s2⟩ ⟨hd,hs2⟩;dsimp only at hd hs2 |-;have hnl:=hd.2.1.2.1;have hn3:=hd.2.1.1;refine rt d.2.1.length (fun i (s:Src×List DWire×Unit)=>RngP s.1/\s.2.1.length=i/\∀ w∈s.2.1,WirQ w) (by omega) (by omega) ⟨hs2,rfl,by simp⟩ ?_ ?_
 .rintro i ⟨s3,ws,u3⟩ next hi ⟨hs3,hwl,hws⟩ hnext
  dsimp only at hs3 hwl hws hnext |-;refine rh (by omega) ?_;refine rb (q257 hN (q345 hd) (i:Int)) ?_;dsimp only;refine Ret.bind (q343 hN hs3 (by have:=q662 (q345 hd) (i:Int); omega)) ?_;rintro ⟨⟨w,u4⟩,s4⟩ ⟨hw,hs4⟩;dsimp only at hw hs4 |-;exact appOk (by omega) (hnext _ ⟨hs4,by simp; omega,q132 hws hw⟩)
 .rintro ⟨s3,ws,u3⟩ next ⟨hs3,hwl,hws⟩
  dsimp only at hs3 hwl hws |-;exact rd (by omega) (ra ⟨⟨hl,hd,by dsimp only; omega,by dsimp only; omega,hws⟩,hs3⟩)
include hN in
theorem q336{s:Src}(h:RngP s):Ret (F_12 N (s,u)) (fun r=>(SmallB r.1.1/\Few r.1.1.2.1)/\RngP r.2):=by
 unfold F_12;dsimp only;refine Ret.bind (q10 h 3) ?_;rintro ⟨⟨d1,u1⟩,s1⟩ ⟨_,hs1⟩;dsimp only at hs1 |-;refine Ret.bind (q331 hN hs1 (by omega) _) ?_;rintro ⟨⟨⟨l,d,ws,u9⟩,u2⟩,s2⟩ ⟨⟨hl,hd,hw3,hw20,hws⟩,hs2⟩;dsimp only at hl hd hw3 hw20 hws hs2 |-;refine Ret.bind (q10 hs2 _) ?_;rintro ⟨⟨k,u3⟩,s3⟩ ⟨hk,hs3⟩;dsimp only at hk hs3 |-;refine Ret.bind (q10 hs3 20) ?_;rintro ⟨⟨d4,u4⟩,s4⟩ ⟨_,hs4⟩;dsimp only at hs4 |-;have hkl:k.toNat<ws.length:=by omega
 have hkg:ws[k.toNat]?=some ws[k.toNat]:=aW hkl;have hwk:=hws _ (aR hkl);have mk:∀ ws2:List DWire,ws2.length<=20->(∀ w∈ws2,SmallW w)->SmallB (l,d,ws2,u9)/\Few d:=fun ws2 h1 h2=>⟨⟨hl,q288 hd,by dsimp only; omega,h2⟩,q345 hd⟩;have hsm:∀ w∈ws,SmallW w:=fun w hw=>q305 (hws w hw);generalize ws[k.toNat]=wk at hkg hwk;have hwks:=q305 hwk;refine rf (fun _=>?_) fun _=>rf (fun _=>?_) fun _=>rf (fun _=>?_) fun _=>rf (fun _=>?_) fun _=>rf (fun _=>?_) fun _=>rf (fun _=>?_) fun _=>?_
 .refine rr ⟨by omega,by omega,by omega⟩ (ra ⟨mk _ (by simp; omega) fun w hw=>hsm w (List.mem_of_mem_take (List.mem_of_mem_drop hw)),hs4⟩)
 .refine rq hk.1 (by omega) (rb hkg (rb hkg ?_));refine rb (q439 wk.2.2.2.1 (by have:=hwk.2.2.2; omega)) ?_;dsimp only;refine appOk (by have:=hwk.2.2.2; omega) ?_;refine rq hk.1 (by omega) (rb hkg (ra ⟨mk _ (by simpa using hw20) (q291 hsm ⟨hwks.1,hwks.2.1,hwks.2.2.1,by have:=hwk.2.2.2; simp; omega⟩),hs4⟩))
 .refine rq hk.1 (by omega) (rb hkg (rb hkg ?_));refine rq (by omega) (by have:=hwk.2.1.1; omega) (rb hkg (rl (show (0:Int).toNat<wk.2.1.length by have:=hwk.2.1.1; show 0<_; omega) ?_));exact ra ⟨mk _ (by simpa using hw20) (q291 hsm ⟨hwks.1,by simpa using hwks.2.1,hwks.2.2.1,hwks.2.2.2⟩),hs4⟩
 .refine rq hk.1 (by omega) (rb hkg ?_);refine Ret.bind (q10 hs4 3) ?_;rintro ⟨⟨d5,u5⟩,s5⟩ ⟨hd5,hs5⟩;dsimp only at hd5 hs5 |-;have h3:d5.toNat<[((-1):Int),(500:Int),(501:Int)].length:=by simp; omega
  refine rq hd5.1 (by simp; omega) (rl h3 (rb hkg ?_));refine rq (by omega) (by have:=hwk.2.2.1.1; omega) (rb hkg (rl (show (0:Int).toNat<wk.2.2.1.length by have:=hwk.2.2.1.1; show 0<_; omega) ?_));exact ra ⟨mk _ (by simpa using hw20) (q291 hsm ⟨hwks.1,hwks.2.1,by simpa using hwks.2.2.1,hwks.2.2.2⟩),hs5⟩
 .refine rq hk.1 (by omega) (rb hkg ?_);refine rq hk.1 (by omega) (rb hkg (rb hkg ?_));refine Ret.bind (q10 hs4 5) ?_;rintro ⟨⟨d5,u5⟩,s5⟩ ⟨hd5,hs5⟩;dsimp only at hd5 hs5 |-;refine rb hkg ?_;have h1:=hwk.1;rw[wrapI (n:=(wk.1.length:Int) - 1) (by omega) (by omega)];refine rq (by omega) (by omega) (rb hkg (rl (show ((wk.1.length:Int) - 1).toNat<wk.1.length by omega) ?_));exact ra ⟨mk _ (by simpa using hw20) (q291 hsm ⟨by simpa using hwks.1,hwks.2.1,hwks.2.2.1,hwks.2.2.2⟩),hs5⟩
 .have hp:=hd.2.2;refine rq (by omega) (by have:=hp.1; omega) (rl (show (0:Int).toNat<d.2.2.1.length by have:=hp.1; show 0<_; omega) ?_);have hds:=q288 hd;have hdf:=q345 hd;refine ra ⟨⟨⟨hl,⟨hds.1,hds.2.1,by simpa using hds.2.2.1,q291 hds.2.2.2 ?_⟩,by dsimp only; omega,hsm⟩,hdf.1,hdf.2.1,by simpa using hdf.2.2⟩,hs4⟩;have h5:=hds.2.2.2 _ (aR (show (0:Int).toNat<d.2.2.1.length by have:=hp.1; show 0<_; omega));exact h5
 .exact ra ⟨mk _ hw20 hsm,hs4⟩
include hN in
theorem q399{s:Src}(h:RngP s):Ret (F_12 N (s,u)) (fun r=>SmallB r.1.1/\RngP r.2):=(q336 hN h).imp fun _ h=>⟨h.1.1,h.2⟩
include hN in
theorem q482{s:Src}(h:RngP s):Ret (F_13 N (s,u)) (fun r=>SmallB r.1.1/\RngP r.2):=by
 unfold F_13;dsimp only;refine Ret.bind (q10 h 16) ?_;rintro ⟨⟨d1,u1⟩,s1⟩ ⟨_,hs1⟩;dsimp only at hs1 |-;refine rf (fun _=>?_) fun _=>?_
 .refine Ret.bind (q399 hN hs1) ?_;rintro ⟨⟨b,u2⟩,s2⟩ hb;exact ra hb
 .refine Ret.bind (q10 hs1 7) ?_;rintro ⟨⟨d3,u3⟩,s3⟩ ⟨hd3,hs3⟩;dsimp only at hd3 hs3 |-;refine Ret.bind (q10 hs3 8) ?_;rintro ⟨⟨d4,u4⟩,s4⟩ ⟨_,hs4⟩;dsimp only at hs4 |-;rw[wrapI (n:=2+d3) (by omega) (by omega)];refine Ret.bind (q331 hN hs4 (by omega) _) ?_;rintro ⟨⟨b,u5⟩,s5⟩ ⟨hb,hs5⟩;exact ra ⟨q620 hb,hs5⟩
end
section
variable {N:Nat} (hN:HN N) {u:Unit}
def Case26(r:DBlock×List DViolation×List DWaiver×Int×Unit):Prop:=SmallB r.1/\r.2.1.length<1000/\(r.2.2.1.length<1000/\∀ w∈r.2.2.1,q118 w)
include hN in
theorem q341{code:List Int}(hl:code.length<=4096)(hc:∀ b∈code,BtwP 0 255 b):Ret (F_14 N (code,u)) Case26:=by
 unfold F_14;dsimp only
 refine rz (I:=fun(s:Int×Src×Unit)=>(0<=s.1/\s.1<=64)/\RngP s.2.1) (T:=fun s=>(64 - s.1).toNat) ?_ N _
  ⟨⟨by dsimp only; omega,by dsimp only; omega⟩,⟨⟨by dsimp only; omega,by dsimp only; omega⟩,⟨by dsimp only; omega,by dsimp only; omega⟩,hc⟩⟩ (by dsimp only; omega)
 rintro ⟨i,⟨cd,at0,seed,u1⟩,u2⟩ next ⟨⟨hi0,hi64⟩,hs⟩ hnext
 dsimp only at hi0 hi64 hs |-;refine rf (fun h1=>rf (fun h2=>?_) fun h2=>?_) fun h1=>?_
 .have hlt:i.toNat<code.length:=by omega
  refine va hi0 hlt ?_;have hb:=hc _ (aR hlt);unfold BtwP at hb;generalize code[i.toNat]=e at hb |-;obtain ⟨g1,⟨g2,g3⟩,g4⟩:=hs;dsimp only at g1 g2 g3 g4;rw[wrapI (n:=i+1) (by omega) (by omega),wrapI (n:=seed * 31) (by omega) (by omega),wrapI (n:=e) (by omega) (by omega),wrapI (n:=seed * 31+e) (by omega) (by omega)];have k1:=tmodB (a:=seed * 31+e) (b:=2147483647) (by omega) (by omega);exact hnext _ ⟨⟨by dsimp only; omega,by dsimp only; omega⟩,g1,k1,g4⟩ (by dsimp only; omega)
 all_goals
  refine Ret.bind (q482 hN hs) ?_;rintro ⟨⟨b,u3⟩,s3⟩ ⟨hb,hs3⟩;dsimp only at hb hs3 |-;refine rb (q317 hN hb) ?_;dsimp only;refine ri (fun _=>ra ⟨hb,by simp,by simp,by simp⟩) fun hB=>?_;refine Ret.bind (q322 hN hb hB) ?_;rintro ⟨ends,u4⟩ ⟨hel,_⟩;dsimp only at hel |-;refine Ret.bind (q10 hs3 9) ?_;rintro ⟨⟨d5,u5⟩,s5⟩ ⟨_,hs5⟩;dsimp only at hs5 |-;refine rt ends.length (fun i (s:Src×List DViolation×Unit)=>RngP s.1/\s.2.1.length<=2 * i) (by omega) (by omega) ⟨hs5,by simp⟩ ?_ ?_
  .rintro j ⟨s6,vl,u6⟩ next1 hj ⟨hs6,hvl⟩ hnext1;dsimp only at hs6 hvl hnext1 |-;refine rh (by omega) ?_
   refine rz (I:=fun(s:Int×Src×List DViolation×Unit)=>(1<=s.1/\s.1<=3)/\RngP s.2.1/\(s.2.2.1.length:Int)<=2 * j+(s.1 - 1)) (T:=fun s=>(3 - s.1).toNat) ?_ N _
    ⟨⟨by dsimp only; omega,by dsimp only; omega⟩,hs6,by dsimp only; omega⟩ (by dsimp only; omega)
   rintro ⟨kd,s7,v7,u7⟩ next2 ⟨⟨hk1,hk3⟩,hs7,hv7⟩ hnext2;dsimp only at hk1 hk3 hs7 hv7 |-;refine rf (fun hk=>?_) fun hk=>hnext1 _ ⟨hs7,by dsimp only; omega⟩;refine Ret.bind (q10 hs7 3) ?_;rintro ⟨⟨d8,u8⟩,s8⟩ ⟨_,hs8⟩;dsimp only at hs8 |-;rw[wrapI (n:=kd+1) (by omega) (by omega)];refine rf (fun _=>?_) fun _=>hnext2 _ ⟨⟨by dsimp only; omega,by dsimp only; omega⟩,hs8,by dsimp only; omega⟩ (by dsimp only; omega);refine rk hj (rl (by omega) ?_);refine Ret.bind (q10 hs8 30) ?_;rintro ⟨⟨d9,u9⟩,s9⟩ ⟨_,hs9⟩;dsimp only at hs9 |-;exact appOk (by omega) (hnext2 _ ⟨⟨by dsimp only; omega,by dsimp only; omega⟩,hs9,by simp; omega⟩ (by dsimp only; omega))
  .rintro ⟨s6,vl,u6⟩ next1 ⟨hs6,hvl⟩;dsimp only at hs6 hvl |-;refine rd (by omega) ?_;refine Ret.bind (q10 hs6 6) ?_;rintro ⟨⟨d7,u7⟩,s7⟩ ⟨hd7,hs7⟩;dsimp only at hd7 hs7 |-
   refine rz (I:=fun(s:Int×Src×List DWaiver×Unit)=>(0<=s.1/\s.1+s.2.2.1.length<=6)/\RngP s.2.1/\∀ w∈s.2.2.1,q118 w) (T:=fun s=>s.1.toNat) ?_ N _
    ⟨⟨by dsimp only; omega,by simp; omega⟩,hs7,by simp⟩ (by dsimp only; omega)
   rintro ⟨n,s8,ws,u8⟩ next2 ⟨⟨hn0,hn6⟩,hs8,hws⟩ hnext2;dsimp only at hn0 hn6 hs8 hws |-;refine rf (fun hn=>rf (fun he=>?_) fun he=>?_) fun hn=>?_
   .refine Ret.bind (q10 hs8 _) ?_;rintro ⟨⟨k,u9⟩,s9⟩ ⟨hk,hs9⟩;dsimp only at hk hs9 |-;refine rq hk.1 (by omega) (rl (show k.toNat<ends.length by omega) ?_);refine Ret.bind (q10 hs9 2) ?_;rintro ⟨⟨a1,v1⟩,t1⟩ ⟨_,ht1⟩;dsimp only at ht1 |-;refine Ret.bind (q10 ht1 40) ?_;rintro ⟨⟨a2,v2⟩,t2⟩ ⟨_,ht2⟩;dsimp only at ht2 |-;refine Ret.bind (q10 ht2 12) ?_;rintro ⟨⟨a3,v3⟩,t3⟩ ⟨_,ht3⟩;dsimp only at ht3 |-;refine Ret.bind (q10 ht3 3) ?_;rintro ⟨⟨a4,v4⟩,t4⟩ ⟨ha4,ht4⟩;dsimp only at ha4 ht4 |-;have hnl:a4.toNat<[(⟨#[97,110,110]⟩:ByteArray),(⟨#[98,111]⟩:ByteArray),(⟨#[120,49]⟩:ByteArray)].length:=by simp; omega
    refine rq ha4.1 (by simp; omega) (rl hnl ?_);have hnm:∀ x∈[(⟨#[97,110,110]⟩:ByteArray),(⟨#[98,111]⟩:ByteArray),(⟨#[120,49]⟩:ByteArray)],x.size<4000000:=by intro x hx;simp only[aw,bd,or_false] at hx;rcases hx with rfl | rfl | rfl <;> decide
    have hnm:=hnm _ (aR hnl);generalize [(⟨#[97,110,110]⟩:ByteArray),(⟨#[98,111]⟩:ByteArray),(⟨#[120,49]⟩:ByteArray)][a4.toNat]=nm at hnm |-;refine lenOk (by simp; omega) (appOk (by simp; omega) ?_);rw[List.nil_append];refine rb (q182 hN hb hB (by simp; omega) (q132 hws hnm)) ?_;dsimp only;rw[wrapI (n:=n - 1) (by omega) (by omega)];refine ri (fun _=>hnext2 _ ⟨⟨by dsimp only; omega,by dsimp only; omega⟩,ht4,hws⟩ (by dsimp only; omega)) fun _=>?_;exact appOk (by omega) (hnext2 _ ⟨⟨by dsimp only; omega,by simp; omega⟩,ht4,q132 hws hnm⟩ (by dsimp only; omega))
   all_goals
    have hv:vl.length<500:=by omega
    have hw:ws.length<500:=by omega
    refine Ret.bind (q10 hs8 12) ?_;rintro ⟨⟨a1,v1⟩,t1⟩ ⟨_,ht1⟩;dsimp only at ht1 |-;refine rf (fun _=>?_) fun _=>ra ⟨hb,by dsimp only; omega,by dsimp only; omega,hws⟩;refine Ret.bind (q10 ht1 5) ?_;rintro ⟨⟨a2,v2⟩,t2⟩ ⟨_,ht2⟩;dsimp only at ht2 |-;refine rf (fun _=>appOk (by omega) (ra ⟨hb,by simp; omega,by dsimp only; omega,hws⟩)) fun _=>?_;refine rf (fun _=>appOk (by omega) (ra ⟨hb,by dsimp only; omega,by simp; omega,q132 hws (by show (ByteArray.mk #[97]).size<4000000; decide)⟩)) fun _=>?_;refine rf (fun _=>rf (fun h0=>?_) fun _=>ra ⟨hb,by dsimp only; omega,by dsimp only; omega,hws⟩) fun _=>?_
    .have h0':(0:Int).toNat<ws.length:=by show 0<_; omega
     refine rq (by omega) (by omega) (rl h0' (appOk (by omega) (ra ⟨hb,by dsimp only; omega,by simp; omega,q132 hws (hws _ (aR h0'))⟩)))
    refine rf (fun _=>rf (fun h0=>?_) fun _=>ra ⟨hb,by dsimp only; omega,by dsimp only; omega,hws⟩) fun _=>?_
    .have h0':(0:Int).toNat<vl.length:=by show 0<_; omega
     exact rq (by omega) (by omega) (rl h0' (ra ⟨hb,by simp; omega,by dsimp only; omega,hws⟩))
    refine Ret.bind (q10 ht2 2) ?_;rintro ⟨⟨a3,v3⟩,t3⟩ ⟨_,ht3⟩;exact ra ⟨hb,by dsimp only; omega,by dsimp only; omega,hws⟩
end
open Go.Lib Go.RowKit
theorem q565{H:Type}{enc:TypeId×Value->H}{P:Program}{w:World}{base:Nat}{sp:Nat->Bool}{held:Bool}{fuel:Nat}{t e:TypeId}{n:Nat}{cs:List Value}{zs:List ByteArray}{p:List MemPlace}
 (ht:P.underlying t=some (.array n e)) (he:P.underlying e=some .string) (hce:P.cellsOf e=1) (hct:P.cellsOf t=n)
 (h:DataW.trod enc P w base sp held fuel t cs=some (.agg (zs.map fun z => .lit (.string z.data.toList)),p)):cs=zs.map (fun z=>Value.string z)/\∀ z∈zs,z.size<=maxLen:=by
 cases fuel with
 | zero=>simp[DataW.trod] at h
 | succ fuel=>
  simp only[DataW.trod,ht,hce,hct,Nat.mul_one] at h;split at h
  .rename_i hl;obtain ⟨xs,hm,hx⟩:=ae.1 h;have hxs:xs.map (·.1)=zs.map fun z=>(DataW.lit (.string z.data.toList):DataW H):=by have:=congrArg Prod.fst hx;simpa using this
   have hxl:xs.length=n:=by simpa using mapM_length hm
   have hzl:zs.length=n:=by have:=congrArg List.length hxs;simp at this;omega
   have at_i:∀ i,i<n->∃ z:ByteArray,zs[i]?=some z/\cs[i]?=some (.string z)/\z.size<=maxLen:=by
    intro i hi;obtain ⟨b,hb,hf⟩:=mapM_at hm i i (by simp[hi]);obtain ⟨z,hc,rfl,hsz⟩:=DataW.trod_string he hf;have h1:cs[i]?=some (.string z):=by have:=congrArg (·[0]?) hc;simpa [aC,bj] using this
    have h2:(xs.map (·.1))[i]?=some (DataW.lit (.string z.data.toList):DataW H):=by simp[hb]
    rw[hxs] at h2;simp only[ab,ae,DataW.lit.injEq,Lit.string.injEq] at h2;obtain ⟨z',hz',hzz⟩:=h2;have:z'=z:=by cases z'; cases z; simp at hzz; simp[hzz]
    subst this;exact ⟨z',hz',h1,hsz⟩
   refine ⟨?_,fun z hz=>?_⟩
   .apply List.ext_getElem?;intro i;by_cases hi:i<n
    .obtain ⟨z,hz,hc,_⟩:=at_i i hi;simp[hc,hz]
    .rw[aG (by omega),aG (by simp; omega)]
   .obtain ⟨i,hi,rfl⟩:=bc hz;obtain ⟨z',hz',_,hsz⟩:=at_i i (by omega);rw[aW hi] at hz';cases hz';exact hsz
  .cases h
theorem q155{P:Program}{x:String×DataW Unit}{r:List (String×DataW Unit)}{w:World}(h:laidMet P (x :: r) w):laidMet P r w:=by obtain ⟨ps,⟨g,t,cs,fuel,p,q,_,_,_,_,h1,rfl⟩,hnd,hc⟩:=h;exact ⟨q,h1,(List.nodup_append.1 hnd).2.1,fun b off hm=>hc b off (List.mem_append_right _ hm)⟩
theorem q406{P:Program}{W:World}{name:String}{zs:List ByteArray}{rest:List (String×DataW Unit)}{g:Nat}{t e:TypeId}{n:Nat}
 (hg:P.globalNamed name=some g) (hty:(P.globals[g]?).map (·.type)=some t) (ht:P.underlying t=some (.array n e)) (he:P.underlying e=some .string) (hce:P.cellsOf e=1) (hct:P.cellsOf t=n)
 (h:laidMet P ((name,.agg (zs.map fun z => .lit (.string z.data.toList))) :: rest) W):∀ w',Below W.heap.size W w'->TabsAt [(g,zs)] w':=by
 obtain ⟨ps,⟨g',t',cs,fuel,p,q,hg',ht',hvar,hd,_,_⟩,_⟩:=h;obtain rfl:=ak (hg.symm.trans hg');obtain rfl:=ak (hty.symm.trans ht');obtain ⟨hcs,hsz⟩:=q565 ht he hce hct hd;intro w' hb g2 xs hx i s hs;have hlt:g<W.heap.size:=by
  rcases b7 g W.heap.size with h' | h'
  .exact h'
  .unfold World.var? at hvar;rw[hg,Option.bind_some,Array.getElem?_eq_none h'] at hvar; simp at hvar
 have hg2:g=g2/\zs=xs:=by
  simp only[q233] at hx;cases hb:Nat.beq g g2 with
  | true=>rw[hb,cond_true] at hx; exact ⟨aU hb,ak hx⟩
  | false=>rw[hb,cond_false] at hx; cases hx
 obtain ⟨rfl,rfl⟩:=hg2;refine ⟨fun j u hj=>?_,hsz s (ao hs)⟩
 match j,hj with
 | 0,hj=>
  simp only[List.getElem?_cons_zero,ag] at hj;subst hj;have h1:=World.var?_cell hg hvar i;have h2:cs[i]?=some (.string s):=by
   have:cs.toList[i]?=some (.string s):=by rw[hcs,ab,hs]; rfl
   simpa using this
  rw[h2] at h1;have:w'.cell? ⟨g,i+0,none⟩=W.cell? ⟨g,i,none⟩:=by simp only[World.cell?,hb.block g hlt,Nat.add_zero]
  rw[this,h1]
 | j+1,hj=>simp at hj
def q289(W:World)(g:Nat):Prop:=∃ ev,W.cell? ⟨g,0,none⟩=some ev/\(ev = .nilIface\/∃ te pe,ev = .iface te pe)
theorem q615 : "*" ++ "errors.errorString" = "*errors.errorString" := by decide
theorem q759(u : TypeId)(h : Tryz.prog.typeName? 3 u = some "*errors.errorString") : u = 338 :=
 typeName_ptr_named (nm := "errors.errorString") (by rw[q615]; kernel_rfl) (by kernel_rfl) (by decide) u (by rw[q615]; exact h)
theorem q185{W : World}{n : String}{text : List UInt8}{r : List (String × DataW Unit)}{g : Nat}(h : laidMet Tryz.prog ((n, .iface "*errors.errorString" (.ptr (.agg [.lit (.string text)]))) :: r) W)(hg : Tryz.prog.globalNamed n = some g)(ht : (Tryz.prog.globals[g]?).map (·.type) = some 199) : q289 W g := by
 obtain ⟨a,s,hv,_⟩:=laid_sentinel h hg ht Tryz.underlying199 q759 Tryz.underlying338 Tryz.underlying340 rfl rfl Tryz.underlying9 (by kernel_rfl) (by kernel_rfl);exact ⟨_,(by have h0:=World.var?_cell hg hv 0; simpa using h0),.inr ⟨_,_,rfl⟩⟩
theorem q289.below{W W':World}{g:Nat}(h:q289 W g)(hb:Below W.heap.size W W'):q289 W' g:=by obtain ⟨ev,h1,h2⟩:=h;exact ⟨ev,(World.cell?_of_block (hb.block _ (World.block_lt_of_cell? W _ h1))).trans h1,h2⟩
theorem q570{W : World}(h1 : TabIs Tryz.prog W "internal/strconv.uint64pow10" .u64 pow10Tab)(h3 : ∃ m, W.cell? ⟨1, 0, none⟩ = some (.int .i64 m))(h2 : ∀ w', Below W.heap.size W w' → TabsAt [(0, q18)] w')(h4 : q289 W 2)(h5 : q289 W 3) : PRE W := fun w' hb => ⟨tabBelow_of_tabIs h1 w' hb, h2 w' hb, by
 obtain ⟨m,hm⟩:=h3;exact ⟨m,(World.cell?_of_block (hb.block _ (World.block_lt_of_cell? W _ hm))).trans hm⟩,h4.below hb,h5.below hb⟩
end Go.Proofs.YtefbaonpbemejabGreatDoor
