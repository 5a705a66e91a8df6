/- Open violations: both sides. No program in sight. Open violations and surplus waivers: what both sides answer. No program in sight. Expired and unused waivers,the program's side. No program in sight. What a waiver covers,the program's side. No program in sight. -/
import Derived.Test.YtaljimgiglekhaaGreatDoorPgX
import Derived.Test.YtaljimgiglekhaaGreatDoorPgF
namespace Go.Proofs.YtaljimgiglekhaaGreatDoor
set_option linter.unusedSimpArgs false
set_option linter.unusedVariables false
set_option linter.unusedSectionVars false
theorem Ret.deleteFunc{B M:Type}{R:M->Prop}{N:Nat}(hN:HN N){xs:List B}(hl:xs.length<4000000)(keep:B->Bool)(g:B->Option (Bool×Unit))(hg:∀ x∈xs,g x=some (!keep x,()))(z:B)(K:List B->Option M)(hK:Ret (K (xs.filter keep)) R)
 {k:Nat} (hk:k<xs.length) (hk1:keep xs[k]=false) (hk2:∀ j (h:j<xs.length),j<k->keep xs[j]=true) {u:Unit}:
 Ret (fixN N (fun(next:Int×Int×List B×Unit->Option M)(s:Int×Int×List B×Unit)=>bif decide (s.2.1<(s.2.2.1.length:Int)) then (bif inI s.2.1 s.2.2.1.length then obind (s.2.2.1[s.2.1.toNat]?) fun e=>obind (g e) fun r=>(bif (!r.1) then (bif inI s.1 s.2.2.1.length then obind (s.2.2.1[s.1.toNat]?) fun _=>next (wq (s.1+(1:Int)),wq (s.2.1+(1:Int)),s.2.2.1.set s.1.toNat e,()) else none) else next (s.1,wq (s.2.1+(1:Int)),s.2.2)) else none)
  else (bif (decide (0<=s.1) && decide (s.1<=(s.2.2.1.length:Int))) then (bif (decide (0<=s.1) && decide (s.1<=((s.2.2.1.take s.1.toNat++List.replicate (s.2.2.1.length - s.1.toNat) z).length:Int))) then K ((s.2.2.1.take s.1.toNat++List.replicate (s.2.2.1.length - s.1.toNat) z).take s.1.toNat) else none) else none)) ((k:Int),wq ((k:Int)+(1:Int)),xs,u)) R:=by
 have hw:wq ((k:Int)+1)=((k+1:Nat):Int):=q149 (by omega);rw[hw];have h0:(xs.take (k+1)).filter keep=xs.take k:=by
  rw[aI hk,List.filter_append];have h1:(xs.take k).filter keep=xs.take k:=by rw[List.filter_eq_self];intro x hx;obtain ⟨j,hj,rfl⟩:=List.getElem_of_mem hx;rw[List.length_take] at hj;rw[List.getElem_take];exact hk2 j (by omega) (by omega)
  rw[h1]; simp[hk1]
 refine rz (I:=fun s=>∃ i j:Nat,s.1=(i:Int)/\s.2.1=(j:Int)/\i<j/\j<=xs.length/\s.2.2.1.length=xs.length/\s.2.2.1.take i=(xs.take j).filter keep/\s.2.2.1.drop j=xs.drop j) (T:=fun s=>xs.length - s.2.1.toNat) ?_ N _ ⟨k,k+1,rfl,rfl,by omega,by omega,rfl,h0.symm,rfl⟩ (by dsimp only; omega);rintro ⟨i',j',row,v⟩ next ⟨i,j,h1,h2,hij,hj,hlen,htk,hdr⟩ hn
 dsimp only at h1 h2 hlen htk hdr |-;subst h1 h2;by_cases hlt:j<xs.length
 .refine rh (by omega) (rj (by omega) ?_);rw[aE];have hrj:row[j]'(by omega)=xs[j]:=by have:=congrArg (fun l=>l[0]?) hdr;simp only[List.getElem?_drop,Nat.add_zero] at this;rw[aW (by omega),aW hlt] at this;exact Option.some.inj this
  refine rk (by omega) (ra (hg _ (by rw[hrj]; exact aR hlt)) ?_);rw[hrj];have hfs:(xs.take (j+1)).filter keep=(xs.take j).filter keep++(if keep xs[j]=true then [xs[j]] else []):=by rw[aI hlt,List.filter_append];congr 1;by_cases h:keep xs[j]=true <;> simp[h]
  dsimp only;rw[Bool.not_not];cases hkj:keep xs[j] with
  | true=>
   rw[cond_true];refine rj (by omega) ?_;rw[aE];refine rk (by omega) (hn _ ⟨i+1,j+1,?_,?_,by omega,hlt,?_,?_,?_⟩ ?_)
   .exact q149 (by omega)
   .exact q149 (by omega)
   .simp[hlen]
   .rw[hfs,if_pos hkj,<- htk];dsimp only;rw[aI (by simp; omega),List.getElem_set_self];congr 1;rw[List.take_set_of_le (Nat.le_refl _)]
   .dsimp only;rw[List.drop_set_of_lt (by omega)];have:=congrArg (List.drop 1) hdr;simpa [List.drop_drop] using this
   .dsimp only; rw[wrapI (by omega) (by omega)]; omega
  | false=>
   rw[cond_false];refine hn _ ⟨i,j+1,rfl,?_,by omega,hlt,hlen,?_,?_⟩ ?_
   .exact q149 (by omega)
   .rw[hfs,hkj]; simpa using htk
   .have:=congrArg (List.drop 1) hdr;simpa [List.drop_drop] using this
   .dsimp only; rw[wrapI (by omega) (by omega)]; omega
 .obtain rfl:j=xs.length:=by omega
  refine rd (by omega) (Ret.guard2 ⟨by omega,by omega⟩ (Ret.guard2 ⟨by omega,?_⟩ ?_))
  .rw[aE]; simp; omega
  .rw[aE];rw[aP] at htk;have:(row.take i++List.replicate (row.length - i) z).take i=xs.filter keep:=by rw[List.take_append_of_le_length (by rw[List.length_take]; omega),List.take_take,Nat.min_self,htk]
   rw[this];exact hK
theorem q531{B:Type}(xs:List B)(a:B)(p:B->Bool):(xs++[a]).filter p=xs.filter p++(if p a=true then [a] else []):=by rw[List.filter_append];congr 1;cases h:p a <;> simp[h]
noncomputable def openBy(l:List DViolation)(A:List DWaiver)(day:Int):List DViolation:=l.filter fun v=>dec (¬ ∃ w∈A,CovP w v day)
theorem q303(l:List DViolation)(A:List DWaiver)(day:Int):(openBy l A day).length<=l.length:=List.length_filter_le _ _
theorem q513{B:Type}{xs:List B}{keep:B->Bool}(h:∀ j (h:j<xs.length),¬ keep xs[j]=false):xs.filter keep=xs:=by
 rw[List.filter_eq_self];intro x hx;obtain ⟨j,hj,rfl⟩:=List.getElem_of_mem hx;cases hk:keep xs[j] with
 | true=>rfl
 | false=>exact absurd hk (h j hj)
def actW:List DWaiver->List Bool->List DWaiver
 | w :: ws,f :: fs=>if f then w :: actW ws fs else actW ws fs
 | _,_=>[]
theorem q73:∀{ws:List DWaiver}{fs:List Bool}{w:DWaiver},w∈actW ws fs↔∃ k:Nat,ws[k]?=some w/\fs[k]?=some true
 | [],fs,w=>by simp[actW]
 | _ :: _,[],w=>by simp[actW]
 | x :: ws,f :: fs,w=>by
  have ih:=q73 (ws:=ws) (fs:=fs) (w:=w);unfold actW;cases f with
  | true=>
   rw[if_pos rfl,List.mem_cons,ih];constructor
   .rintro (rfl | ⟨k,h1,h2⟩)
    .exact ⟨0,rfl,rfl⟩
    .exact ⟨k+1,by simpa using h1,by simpa using h2⟩
   .rintro ⟨k,h1,h2⟩;cases k with
    | zero=>left; simpa using h1.symm
    | succ k=>right; exact ⟨k,by simpa using h1,by simpa using h2⟩
  | false=>
   rw[if_neg (by simp),ih];constructor
   .rintro ⟨k,h1,h2⟩; exact ⟨k+1,by simpa using h1,by simpa using h2⟩
   .rintro ⟨k,h1,h2⟩;cases k with
    | zero=>simp at h2
    | succ k=>exact ⟨k,by simpa using h1,by simpa using h2⟩
theorem q272:∀(ws:List DWaiver),actW ws (List.replicate ws.length true)=ws
 | []=>rfl
 | w :: ws=>by rw[aF,List.replicate_succ,actW,if_pos rfl,q272 ws]
theorem q337:∀(ws:List DWaiver)(fs:List Bool),(actW ws fs).length<=ws.length
 | [],fs=>by simp[actW]
 | _ :: _,[]=>by simp[actW]
 | w :: ws,f :: fs=>by have:=q337 ws fs;unfold actW;split <;> simp <;> omega
section
variable {N:Nat} (hN:HN N) {u:Unit}
include hN
theorem q197{l:List DViolation}(hl:l.length<4000000){ws:List DWaiver}(hw:ws.length<4000000){fs:List Bool}(hf:fs.length=ws.length)(day:Int):F_144 N (l,ws,fs,day,u)=some (openBy l (actW ws fs) day,()):=by
 refine Ret.eq ?_;unfold F_144;dsimp only;refine rq l.length (fun i s=>s=(openBy (l.take i) (actW ws fs) day,())) (by omega) (by omega) rfl ?_ ?_
 .rintro i s next hi rfl hn
  have hos:openBy (l.take (i+1)) (actW ws fs) day=openBy (l.take i) (actW ws fs) day++(if dec (¬ ∃ w∈actW ws fs,CovP w l[i] day)=true then [l[i]] else []):=by unfold openBy;rw[aI hi];exact q531 _ _ _
  have hlen:(openBy (l.take i) (actW ws fs) day).length<=i:=Nat.le_trans (q303 _ _ _) (by rw[List.length_take]; omega);dsimp only;refine rh (by omega) ?_;refine ve 0 ws.length (fun j s _=>s=dec (∃ k,k<j/\∃ (h:k<ws.length) (h':k<fs.length),fs[k]=true/\CovP ws[k] l[i] day)) (by omega) (by omega) (by omega) ?_ ?_ ?_
  .exact (q28 fun ⟨k,hk,_⟩=>by omega).symm
  .rintro j s v next2 _ hj rfl hm;dsimp only;refine rh (by omega) ?_;by_cases hd:∃ k,k<j/\∃ (h:k<ws.length) (h':k<fs.length),fs[k]=true/\CovP ws[k] l[i] day
   .rw[dec_of hd,cond_true];refine hm _ _ (dec_of ?_).symm;obtain ⟨k,hk,h⟩:=hd;exact ⟨k,by omega,h⟩
   .rw[q28 hd,cond_false];refine rg (by omega) ?_;have back:(∃ k,k<j+1/\∃ (h:k<ws.length) (h':k<fs.length),fs[k]=true/\CovP ws[k] l[i] day)↔(fs[j]'(by omega)=true/\CovP ws[j] l[i] day):=by
     constructor
     .rintro ⟨k,hk,h1,h2,h3⟩;by_cases e:k=j
      .subst e; exact h3
      .exact absurd ⟨k,by omega,h1,h2,h3⟩ hd
     .intro h; exact ⟨j,by omega,hj,by omega,h⟩
    cases hfj:fs[j]'(by omega) with
    | true=>
     rw[cond_true];refine rg hj (rg hi (ra (q385 _ _ _) ?_));refine hm _ _ (q77 ?_);rw[back,hfj];exact ⟨fun h=>⟨rfl,h⟩,fun h=>h.2⟩
    | false=>
     rw[cond_false];refine hm _ _ (q28 ?_).symm;rw[back,hfj];exact fun h=>absurd h.1 (by simp)
  .rintro s v next2 rfl;have hiff:(∃ k,k<ws.length/\∃ (h:k<ws.length) (h':k<fs.length),fs[k]=true/\CovP ws[k] l[i] day)↔∃ w∈actW ws fs,CovP w l[i] day:=by
    constructor
    .rintro ⟨k,_,h1,h2,h3,h4⟩;exact ⟨ws[k],q73.2 ⟨k,aW h1,by rw[aW h2,h3]⟩,h4⟩
    .rintro ⟨w,hw,hc⟩;obtain ⟨k,h1,h2⟩:=q73.1 hw;obtain ⟨h3,rfl⟩:=aQ.1 h1;obtain ⟨h4,h5⟩:=aQ.1 h2;exact ⟨k,h3,h3,h4,h5,hc⟩
   dsimp only;refine rd (by omega) (ri ?_ ?_) <;> intro h3
   .refine rg hi (rl ?_ (hn _ ?_))
    .rw[aY]; simp only[aF,List.length_nil]; unfold lim; omega
    .rw[hos,if_pos (dec_of fun h=>h3 (hiff.2 h))]
   .refine hn _ ?_;rw[hos,if_neg (by rw[q28 (not_not_intro (hiff.1 h3))]; simp),List.append_nil]
 .rintro s next rfl
  dsimp only;refine rd (by omega) (rb ?_);rw[aP]
theorem q375{n:Nat}(hn:n<4000000):F_142 N ((n:Int),u)=some (List.replicate n true,()):=by
 refine Ret.eq ?_;unfold F_142;dsimp only;refine rq n (fun i s=>s=(List.replicate i true,())) (by omega) (by omega) rfl ?_ ?_
 .rintro i s next hi rfl hm
  dsimp only;refine rh (by omega) (rl ?_ (hm _ ?_))
  .rw[aY,aD]; simp only[aF,List.length_nil]; unfold lim; omega
  .rw[<- List.replicate_succ']
 .rintro s next rfl
  dsimp only;exact rd (by omega) (rb rfl)
theorem q408{ws:List DWaiver}(hw:ws.length<4000000)(v:DViolation)(day:Int):F_134 N (v,some ws,some day,u)=some (dec (∃ w∈ws,CovP w v day),()):=by
 refine Ret.eq ?_;unfold F_134;refine ra rfl ?_;have hcf:F_133 N (ws,(some v,some day,u),())=some (dec (∃ w∈ws,CovP w v day),()):=by unfold F_133 F_132;refine q30 (q31 (fun e=>F_131 N (e,some v,some day,u)) (fun w=>CovP w v day) (fun w _=>?_) hw hN);unfold F_131;exact Ret.eq (ra rfl (ra rfl (ra (q158 _ _ _) (rb rfl))))
 exact ra hcf (rb rfl)
theorem q165{l:List DViolation}(hl:l.length<4000000){ws:List DWaiver}(hw:ws.length<4000000)(day:Int):F_136 N (l,ws,day,u)=some (openBy l ws day,()):=by
 refine Ret.eq ?_;unfold F_136;dsimp only;refine ra (a:=(l,())) ?_ ?_
 .refine Ret.eq ?_;unfold F_129;refine rl ?_ (rb rfl);rw[List.nil_append]; dsimp only; unfold lim; omega
 have hix:F_135 N (l,(some ws,some day,()),())=some (fidx (fun v=>∃ w∈ws,CovP w v day) l,()):=by unfold F_135;exact q31 (fun e=>F_134 N (e,some ws,some day,())) (fun v=>∃ w∈ws,CovP w v day) (fun v _=>q408 hN hw v day) hl hN
 refine ra hix ?_;rcases q216 (fun v=>∃ w∈ws,CovP w v day) l with ⟨h1,h2⟩ | ⟨k,hk,h1,h2,h3⟩
 .rw[h1];refine rh rfl (rb ?_);have:openBy l ws day=l:=q513 fun j hj=>by rw[q267];exact fun h=>h (h2 j hj)
  rw[this]
 .rw[h1];refine rd (by omega) ?_;refine Ret.deleteFunc hN hl (fun v=>dec (¬ ∃ w∈ws,CovP w v day)) (fun e=>F_134 N (e,some ws,some day,())) (fun v _=>by rw[q408 hN hw v day,<- q141,Bool.not_not]) _ (fun ys=>some (ys,())) (rb ?_) hk (q28 (not_not_intro h2)) (fun j hj hjk=>dec_of (h3 j hj hjk));rfl
end
noncomputable def q135(c:Int)(l:List DViolation)(ws:List DWaiver)(day:Int):List DViolation×Int×Unit:=bif decide (c=0) then (openBy l ws day,0,()) else ([],c,())
section
variable {N:Nat} (hN:HN N) {u:Unit}
include hN
theorem q80{b:DBlock}(hs:SmallB b){l:List DViolation}(hl:l.length<4000000){ws:List DWaiver}(hw:ws.length<4000000/\∀ w∈ws,q71 w)(day:Int):F_145 N (b,l,ws,day,u)=some (q135 (wcode b l ws day) l ws day):=by
 refine Ret.eq ?_;unfold F_145 q135;dsimp only;refine ra (q314 hN hs hl hw day) ?_;dsimp only;refine rm ?_ ?_ <;> intro h
 .rw[decide_eq_false h]; exact rb rfl
 rw[decide_eq_true h];refine ra (q375 hN hw.1) ?_;refine ra (q197 hN hl hw.1 (by simp) day) ?_;rw[q272];exact rb rfl
theorem q253{b:DBlock}(hs:SmallB b){l:List DViolation}(hl:l.length<4000000){ws:List DWaiver}(hw:ws.length<4000000/\∀ w∈ws,q71 w)(day:Int):F_138 N (b,l,ws,day,u)=some (q135 (wcode b l ws day) l ws day):=by
 refine Ret.eq ?_;unfold F_138 q135;dsimp only;refine ra (q88 hN hs hl hw day) ?_;dsimp only;refine rm ?_ ?_ <;> intro h
 .rw[decide_eq_false h]; exact rb rfl
 rw[decide_eq_true h];refine ra (q165 hN hl hw.1 day) ?_;exact rb rfl
end
theorem q579:∀{ws:List DWaiver}{fs:List Bool}{i:Nat}(hi:i<ws.length),(∀(j k:Nat)(hj:j<ws.length)(hk:k<ws.length),j<k->ws[j]≠ws[k])->((actW ws fs).filter fun w=>dec (w≠ws[i]))=actW ws (fs.set i false)
 | [],fs,i,hi,_=>absurd hi (by simp)
 | w :: ws,[],i,hi,_=>by simp[actW]
 | w :: ws,f :: fs,0,hi,hd=>by
  have htail:∀ x∈actW ws fs,dec (x≠w)=true:=fun x hx=>by obtain ⟨k,h1,_⟩:=q73.1 hx;obtain ⟨hk,rfl⟩:=aQ.1 h1;exact dec_of fun e=>hd 0 (k+1) (by simp) (by simpa using hk) (by omega) (by simpa using e.symm)
  rw[List.set_cons_zero];show List.filter (fun x=>dec (x≠w)) (actW (w :: ws) (f :: fs))=actW (w :: ws) (false :: fs);have h0:actW (w :: ws) (false :: fs)=actW ws fs:=by unfold actW; rw[if_neg (by simp)]; cases ws <;> cases fs <;> rfl
  rw[h0];have hf:List.filter (fun x=>dec (x≠w)) (actW ws fs)=actW ws fs:=by rw[List.filter_eq_self]; exact htail
  cases f with
  | true=>
   have h1:actW (w :: ws) (true :: fs)=w :: actW ws fs:=by
    conv=>lhs; unfold actW
    rw[if_pos rfl]
   rw[h1,List.filter_cons,if_neg (by rw[q28 (not_not_intro rfl)]; simp),hf]
  | false=>rw[h0,hf]
 | w :: ws,f :: fs,i+1,hi,hd=>by
  have hi':i<ws.length:=by simpa using hi
  have ih:=q579 (ws:=ws) (fs:=fs) (i:=i) hi' (fun j k hj hk hjk=>by have:=hd (j+1) (k+1) (by simpa using hj) (by simpa using hk) (by omega); simpa using this);have hw:w≠ws[i]:=by have:=hd 0 (i+1) (by simp) hi (by omega); simpa using this
  rw[List.set_cons_succ];have e:(w :: ws)[i+1]=ws[i]:=by simp
  rw[e];have un:∀(g:Bool)(gs:List Bool),actW (w :: ws) (g :: gs)=if g then w :: actW ws gs else actW ws gs:=fun g gs=>by conv=>lhs; unfold actW
  rw[un,un];cases f with
  | true=>rw[if_pos rfl,if_pos rfl,List.filter_cons,if_pos (dec_of hw),ih]
  | false=>rw[if_neg (by simp),if_neg (by simp),ih]
theorem q400{l:List DViolation}{A B:List DWaiver}{day:Int}(h:∀ w∈B,w∈A):(openBy l B day).length=(openBy l A day).length↔openBy l B day=openBy l A day:=by
 have key:∀ l:List DViolation,(openBy l A day).length<=(openBy l B day).length/\((openBy l B day).length=(openBy l A day).length->openBy l B day=openBy l A day):=by
  intro l
  induction l with
  | nil=>exact ⟨Nat.le_refl _,fun _=>rfl⟩
  | cons v l ih=>
   have hA:openBy (v :: l) A day=if dec (¬ ∃ w∈A,CovP w v day)=true then v :: openBy l A day else openBy l A day:=by unfold openBy; rw[List.filter_cons]
   have hB:openBy (v :: l) B day=if dec (¬ ∃ w∈B,CovP w v day)=true then v :: openBy l B day else openBy l B day:=by unfold openBy; rw[List.filter_cons]
   rw[hA,hB];by_cases h1:∃ w∈A,CovP w v day
   .rw[if_neg (by rw[q28 (not_not_intro h1)]; simp)];by_cases h2:∃ w∈B,CovP w v day
    .rw[if_neg (by rw[q28 (not_not_intro h2)]; simp)]; exact ih
    .rw[if_pos (dec_of h2)];refine ⟨by simp only[aF]; omega,fun e=>?_⟩;simp only[aF] at e;omega
   .have h2:¬ ∃ w∈B,CovP w v day:=fun ⟨w,hw,hc⟩=>h1 ⟨w,h w hw,hc⟩;rw[if_pos (dec_of h1),if_pos (dec_of h2)];refine ⟨by simp only[aF]; omega,fun e=>?_⟩;rw[ih.2 (by simpa using e)]
 exact ⟨(key l).2,fun e=>by rw[e]⟩
noncomputable def surp(l:List DViolation)(ws:List DWaiver)(day:Int):Nat->List Bool×List Int
 | 0=>(List.replicate ws.length true,[])
 | i+1=>bif dec (openBy l (actW ws ((surp l ws day i).1.set i false)) day=openBy l ws day) then ((surp l ws day i).1.set i false,(surp l ws day i).2++[(i:Int)]) else surp l ws day i
theorem q160(l:List DViolation)(ws:List DWaiver)(day:Int)(i:Nat):(surp l ws day i).1.length=ws.length/\(surp l ws day i).2.length<=i/\∀ k,i<=k->(surp l ws day i).1[k]?=(List.replicate ws.length true)[k]?:=by
 induction i with
 | zero=>exact ⟨by simp[surp],by simp[surp],fun k _=>rfl⟩
 | succ i ih=>
  unfold surp;cases dec (openBy l (actW ws ((surp l ws day i).1.set i false)) day=openBy l ws day) with
  | true=>
   refine ⟨by simpa using ih.1,by simpa using ih.2.1,fun k hk=>?_⟩;show ((surp l ws day i).1.set i false)[k]?=_;rw[List.getElem?_set_ne (by omega)];exact ih.2.2 k (by omega)
  | false=>exact ⟨ih.1,Nat.le_succ_of_le ih.2.1,fun k hk=>ih.2.2 k (by omega)⟩
noncomputable def q179(c:Int)(l:List DViolation)(ws:List DWaiver)(day:Int):List Int×Int×Unit:=bif decide (c=0) then ((surp l ws day ws.length).2,0,()) else ([],c,())
section
variable {N:Nat} (hN:HN N) {u:Unit}
include hN
theorem q249{b:DBlock}(hs:SmallB b){l:List DViolation}(hl:l.length<4000000){ws:List DWaiver}(hw:ws.length<4000000/\∀ w∈ws,q71 w)(day:Int):F_157 N (b,l,ws,day,u)=some (q179 (wcode b l ws day) l ws day):=by
 refine Ret.eq ?_;unfold F_157 q179;dsimp only;refine ra (q314 hN hs hl hw day) ?_;dsimp only;refine rm ?_ ?_ <;> intro h
 .rw[decide_eq_false h]; exact rb rfl
 rw[decide_eq_true h,cond_true];obtain ⟨hB,hV,hW,hD⟩:=q207 h;refine ra (q375 hN hw.1) ?_;refine ra (q197 hN hl hw.1 (by simp) day) ?_;rw[q272];dsimp only;refine rq ws.length (fun i s=>s=((surp l ws day i).1,(surp l ws day i).2,())) (by omega) (by omega) rfl ?_ ?_
 .rintro i s next hi rfl hn
  obtain ⟨s1,s2,s3⟩:=q160 l ws day i;have hsu:surp l ws day (i+1)=bif dec (openBy l (actW ws ((surp l ws day i).1.set i false)) day=openBy l ws day) then ((surp l ws day i).1.set i false,(surp l ws day i).2++[(i:Int)]) else surp l ws day i:=rfl
  dsimp only;refine rh (by omega) (rj (by omega) ?_);rw[aE];refine rk (by omega) (ra (q197 hN hl hw.1 (by rw[List.length_set]; exact s1) day) ?_);dsimp only;have hsub:∀ w∈actW ws ((surp l ws day i).1.set i false),w∈ws:=fun w hx=>by obtain ⟨k,h1,_⟩:=q73.1 hx;exact List.mem_of_getElem? h1
  refine rf ?_ ?_ <;> intro h2
  .have h3:=(q400 hsub).1 (Int.ofNat_inj.1 h2);rw[dec_of h3,cond_true] at hsu;refine rl ?_ (hn _ ?_)
   .rw[aY]; simp only[aF,List.length_nil]; unfold lim; omega
   .rw[hsu]
  .have h3:¬ openBy l (actW ws ((surp l ws day i).1.set i false)) day=openBy l ws day:=fun e=>h2 (by rw[e]);rw[q28 h3,cond_false] at hsu;refine rj (by rw[List.length_set]; omega) ?_;refine rk (by rw[List.length_set]; omega) (hn _ ?_);rw[hsu];have hb:(surp l ws day i).1[i]?=some true:=by rw[s3 i (Nat.le_refl _)]; simp[hi]
   have hset:((surp l ws day i).1.set i false).set i true=(surp l ws day i).1:=by
    rw[List.set_set];apply List.ext_getElem?;intro k;rw[List.getElem?_set];split
    .rename_i e; subst e; rw[if_pos (by omega),hb]
    .rfl
   rw[hset]
 .rintro s next rfl
  dsimp only;exact rd (by omega) (rb rfl)
theorem q622{xs ys:List DViolation}(hl:xs.length<4000000):F_154 N (xs,ys,u)=some (dec (xs=ys),()):=by
 unfold F_154;have he:∀ a b:DViolation,((decide (a.1=b.1)) && ((decide (a.2.1=b.2.1)) && ((decide (a.2.2.1=b.2.2.1)) && true)))=dec (a=b):=fun a b=>by refine dec_eq ?_;obtain ⟨a1,a2,a3,a4⟩:=a;obtain ⟨b1,b2,b3,b4⟩:=b;simp only[aT,decide_eq_true_eq,Prod.mk.injEq,and_true]
 refine Eq.trans ?_ (q618 (fun e f=>some (dec (e=f),())) (fun _ _ _ _=>rfl) hl hN);simp only[q48,he]
theorem q234{b:DBlock}(hs:SmallB b){l:List DViolation}(hl:l.length<4000000){ws:List DWaiver}(hw:ws.length<4000000/\∀ w∈ws,q71 w)(day:Int):F_155 N (b,l,ws,day,u)=some (q179 (wcode b l ws day) l ws day):=by
 refine Ret.eq ?_;unfold F_155 q179;dsimp only;refine ra (q88 hN hs hl hw day) ?_;dsimp only;refine rm ?_ ?_ <;> intro h
 .rw[decide_eq_false h]; exact rb rfl
 rw[decide_eq_true h,cond_true];obtain ⟨hB,hV,hW,hD⟩:=q207 h;have hdis:∀(j k:Nat)(hj:j<ws.length)(hk:k<ws.length),j<k->ws[j]≠ws[k]:=fun j k hj hk hjk=>hW.2.1 k hk j hjk;have hclone:∀(xs:List DWaiver)(v:Unit),xs.length<4000000->F_151 N (xs,v)=some (xs,()):=fun xs v hx=>by refine Ret.eq ?_;unfold F_151;refine rl ?_ (rb rfl);rw[List.nil_append]; dsimp only; unfold lim; omega
 refine ra (hclone ws () hw.1) ?_;refine ra (q165 hN hl hw.1 day) ?_;dsimp only;refine ve 0 ws.length (fun i A s=>A=actW ws (surp l ws day i).1/\s=((surp l ws day i).2,())) (by omega) (by omega) (by omega) ⟨(q272 ws).symm,rfl⟩ ?_ ?_
 .rintro i A s next _ hi ⟨rfl,rfl⟩ hn
  obtain ⟨s1,s2,s3⟩:=q160 l ws day i;have hal:=q337 ws (surp l ws day i).1;have hsu:surp l ws day (i+1)=bif dec (openBy l (actW ws ((surp l ws day i).1.set i false)) day=openBy l ws day) then ((surp l ws day i).1.set i false,(surp l ws day i).2++[(i:Int)]) else surp l ws day i:=rfl
  have h1g:∀ w∈actW ws (surp l ws day i).1,F_152 N (w,some ws[i],())=some (dec (w=ws[i]),()):=fun w _=>by refine Ret.eq ?_;unfold F_152;refine ra rfl (rb ?_);rw[q376]
  have hmem:ws[i]∈actW ws (surp l ws day i).1:=q73.2 ⟨i,aW hi,by rw[s3 i (Nat.le_refl _)]; simp[hi]⟩;have hdel:=q579 (fs:=(surp l ws day i).1) hi hdis;have hdl:(actW ws ((surp l ws day i).1.set i false)).length<4000000:=Nat.lt_of_le_of_lt (q337 _ _) hw.1;dsimp only;refine rh (by omega) (rg hi (ra (hclone _ () (by omega)) ?_));have hix:F_153 N (actW ws (surp l ws day i).1,(some ws[i],()),())=some (fidx (fun w=>w=ws[i]) (actW ws (surp l ws day i).1),()):=by unfold F_153;exact q31 (fun e=>F_152 N (e,some ws[i],())) (fun w=>w=ws[i]) h1g (show (actW ws (surp l ws day i).1).length<4000000 by omega) hN
  refine ra hix ?_;dsimp only;rcases q216 (fun w=>w=ws[i]) (actW ws (surp l ws day i).1) with ⟨h1,h2⟩ | ⟨k,hk,h1,h2,h3⟩
  .obtain ⟨j,hj,e⟩:=List.getElem_of_mem hmem;exact absurd e (h2 j hj)
  .rw[h1];refine rd (by omega) ?_
   refine Ret.deleteFunc hN (by omega) (fun w=>dec (w≠ws[i])) (fun e=>F_152 N (e,some ws[i],())) (fun w hx=>by rw[h1g w hx,<- q141,Bool.not_not]) _
    (fun ys=>obind (F_136 N (l,ys,day,u)) fun r34=>obind (F_154 N (r34.1,openBy l ws day,())) fun r35=>(bif r35.1 then (bif decide (((surp l ws day i).2++[(i:Int)]).length<=lim) then next (ys,(wq ((i:Int)+(1:Int))),((surp l ws day i).2++[(i:Int)]),()) else none) else next (actW ws (surp l ws day i).1,(wq ((i:Int)+(1:Int))),(surp l ws day i).2,())))
    ?_ hk (q28 (not_not_intro h2)) (fun j hj hjk=>dec_of (h3 j hj hjk))
   rw[hdel];refine ra (q165 hN hl hdl day) ?_;refine ra (q622 hN (Nat.lt_of_le_of_lt (q303 _ _ _) hl)) (ru ?_ ?_) <;> intro h4
   .rw[dec_of h4,cond_true] at hsu;refine rl ?_ (hn _ _ ?_)
    .rw[aY]; simp only[aF,List.length_nil]; unfold lim; omega
    .rw[hsu]; exact ⟨rfl,rfl⟩
   .rw[q28 h4,cond_false] at hsu;exact hn _ _ (by rw[hsu]; exact ⟨rfl,rfl⟩)
 .rintro A s next ⟨rfl,rfl⟩
  dsimp only;exact rd (by omega) (rb rfl)
end
noncomputable def q99{B:Type}(c:Int)(P:B->Prop)(xs:List B):List Int×Int×Unit:=bif decide (c=0) then (plcOf P xs,0,()) else ([],c,())
def ExpP(day:Int)(w:DWaiver):Prop:=w.2.2.2.1<day
def UnuP(l:List DViolation)(day:Int)(w:DWaiver):Prop:=day<=w.2.2.2.1/\∀ v∈l,¬ CovP w v day
section
variable {N:Nat} (hN:HN N) {u:Unit}
include hN
omit hN in
theorem q466{M:Type}{R:M->Prop}{B:Type}{r:List B}{a:B}{n:Nat}{x:Option M}(h:r.length<=n)(hn:n<4000000)(h1:Ret x R):Ret (bif decide ((r++[a]).length<=lim) then x else none) R:=
 rl (by rw[aY]; simp only[aF,List.length_nil]; unfold lim; omega) h1
theorem q248{b:DBlock}(hs:SmallB b){ws:List DWaiver}(hw:ws.length<4000000/\∀ w∈ws,q71 w)(day:Int):F_146 N (b,ws,day,u)=some (q99 (wcode b [] ws day) (ExpP day) ws):=by
 refine Ret.eq ?_;unfold F_146 q99;dsimp only;refine ra (q88 hN hs (by simp) hw day) ?_;dsimp only;refine rm ?_ ?_ <;> intro h
 .rw[decide_eq_false h]; exact rb rfl
 rw[decide_eq_true h];refine gather hN (ExpP day) hw.1 ?_ ?_
 .intro i hi r next hr h1 h2
  dsimp only;refine rh (by omega) (rg hi (rf ?_ ?_)) <;> intro h3
  .exact q466 hr (by omega) (h1 h3)
  .exact h2 h3
 .intro next
  dsimp only;exact rd (by omega) (rb rfl)
theorem q275{b:DBlock}(hs:SmallB b){l:List DViolation}(hl:l.length<4000000){ws:List DWaiver}(hw:ws.length<4000000/\∀ w∈ws,q71 w)(day:Int):F_161 N (b,l,ws,day,u)=some (q99 (wcode b l ws day) (UnuP l day) ws):=by
 refine Ret.eq ?_;unfold F_161 q99;dsimp only;refine ra (q88 hN hs hl hw day) ?_;dsimp only;refine rm ?_ ?_ <;> intro h
 .rw[decide_eq_false h]; exact rb rfl
 rw[decide_eq_true h];refine gather hN (UnuP l day) hw.1 ?_ ?_
 .intro i hi r next hr h1 h2
  dsimp only;refine rh (by omega) (rg hi (rf ?_ ?_)) <;> intro h3
  .have hcf:F_160 N (l,(some ws[i],some day,()),())=some (dec (∃ v∈l,CovP ws[i] v day),()):=by unfold F_160 F_159;refine q30 (q31 (fun e=>F_158 N (e,some ws[i],some day,())) (fun v=>CovP ws[i] v day) (fun v _=>?_) hl hN);unfold F_158;exact Ret.eq (ra rfl (ra rfl (ra (q158 _ _ _) (rb rfl))))
   refine ra hcf (ri ?_ ?_) <;> intro h4
   .exact q466 hr (by omega) (h1 ⟨h3,fun v hv hc=>h4 ⟨v,hv,hc⟩⟩)
   .obtain ⟨v,hv,hc⟩:=h4;exact h2 fun hu=>hu.2 v hv hc
  .exact h2 fun hu=>h3 hu.1
 .intro next
  dsimp only;exact rd (by omega) (rb rfl)
end
section
variable {N:Nat} (hN:HN N) {u:Unit}
include hN
theorem q221{b:DBlock}(hs:SmallB b){w:DWaiver}(hw:q71 w)(v:DViolation)(day:Int):F_147 N (b,w,v,day,u)=some (dec (BlockP b/\DayP day/\WaivP b w/\ViolP b v/\CovP w v day),()):=by
 refine Ret.tells ?_;unfold F_147;dsimp only;refine ra (q312 hN hs) (ri ?_ ?_) <;> intro h1
 .exact rb (q9.2 fun h=>h1 h.1)
 refine ra (q294 _) (ri ?_ ?_) <;> intro h2
 .exact rb (q9.2 fun h=>h2 h.2.1)
 obtain ⟨L,hL⟩:=q306 (u:=()) hN hs h1;refine ra hL (ra (q270 hN h1 L hw) (ru ?_ ?_)) <;> intro h3
 rotate_left
 .exact rb (q9.2 fun h=>h3 h.2.2.1)
 refine ra (q173 hN h1 L _) (ru ?_ ?_) <;> intro h4
 rotate_left
 .exact rb (q9.2 fun h=>h4 h.2.2.2.1)
 refine ra (q158 _ _ _) (rb ?_);rw[q40];exact ⟨fun h=>⟨h1,h2,h3,h4,h⟩,fun h=>h.2.2.2.2⟩
end
end Go.Proofs.YtaljimgiglekhaaGreatDoor
