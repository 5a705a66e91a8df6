/- FnPathReport,the plain law. No program in sight. -/
import Derived.Test.YtcmhpcoiomdekaaGreatDoorPgV
import Derived.Test.YtcmhpcoiomdekaaGreatDoorPgU
import Derived.Test.YtcmhpcoiomdekaaGreatDoorPgF
namespace Go.Proofs.YtcmhpcoiomdekaaGreatDoor
set_option linter.unusedSimpArgs false
set_option linter.unusedVariables false
set_option linter.unusedSectionVars false
set_option maxHeartbeats 2000000
theorem byte_of{n:Int}(h:(Lit.int .u8 n).wf=true):BtwP 0 255 n:=by have h1:IntKind.u8.min=0:=rfl;have h2:IntKind.u8.max=255:=rfl;simp[Lit.wf,h1,h2] at h;unfold BtwP;omega
theorem like_self{N:Nat}(hN:HN N){l:List Int}(hl:l.length<4000000)(u:Unit):F_248 N (l,l,u)=some (true,()):=by
 refine Ret.eq ?_;unfold F_248;dsimp only;rw[am (show (l.length:Int)=(l.length:Int) from rfl)];simp only[Bool.not_true,cond_false];refine rq l.length (fun i _=>True) (by omega) (by omega) trivial ?_ ?_
 .rintro i v next hi _ hnext
  dsimp only;refine rg (fun _=>?_) fun h=>absurd (by omega:(i:Int)<_) h;refine rc hi (rc hi ?_);rw[am (show l[i]=l[i] from rfl)];simp only[Bool.not_true,cond_false];exact hnext _ trivial
 .rintro v next _
  dsimp only;exact rg (fun h=>absurd h (by omega)) fun _=>rb rfl
theorem ptr_tail{p t:List UInt8}(hp:0<p.length)(h:p.length+t.length<=6000){r:ByteArray}(hr:r=B (p++t)):
 Ret (bif decide (((B t).size:Int)<(r.size:Int)) then
  (bif ((decide (0<=(wq ((r.size:Int) - ((B t).size:Int)))) && decide ((wq ((r.size:Int) - ((B t).size:Int)))<=(r.size:Int))) && decide ((r.size:Int)<=(r.size:Int))) then
   some ((decide ((r.extract (wq ((r.size:Int) - ((B t).size:Int))).toNat (r.size:Int).toNat)=B t)),()) else none) else some (false,())) (fun x=>x=(true,())):=by
 have e0:((r.size:Nat):Int)=((p.length+t.length:Nat):Int):=by rw[hr,B_size,aY]
 have e3:(((B t).size:Nat):Int)=((t.length:Nat):Int):=by rw[B_size]
 have e1:wq ((r.size:Int) - ((B t).size:Int))=(p.length:Int):=by rw[e0,e3,wrapI (by omega) (by omega)]; omega
 rw[e1];refine ri (by omega) (rt ⟨by omega,by omega,by omega⟩ (rb ?_));have e2:r.extract (p.length:Int).toNat (r.size:Int).toNat=B t:=by rw[q794,aE,aE,show r.size=p.length+t.length by omega,hr];show B (((p++t).take (p.length+t.length)).drop p.length)=B t;rw[List.take_of_length_le (by simp),List.drop_left]
 rw[e2,am rfl]
theorem law(x:(Ty.pair (.slice (.int .u8)) .nil).den)(hx:(Ty.pair (.slice (.int .u8)) .nil).fits x):∃ N,F_40 N x=some (true,()):=by
 obtain ⟨code,u⟩:=x;obtain ⟨N,hM⟩:∃ N:Nat,1000000000000<=N:=⟨1000000000000,ab _⟩;have hN:4000000<=N:=by omega
 refine ⟨N,Ret.eq ?_⟩;have hcb:∀ b∈code,BtwP 0 255 b:=fun b hb=>byte_of (hx.1.2 b hb);unfold F_40 F_41;dsimp only;refine ra rfl ?_;dsimp only;refine rg (fun _=>rb rfl) fun hbig=>?_;have hcl:code.length<=4096:=by omega
 obtain ⟨⟨j,s,l,m,u0⟩,hD0,⟨hj,_⟩,hl⟩:=q395 (u:=u) hM hcl hcb;dsimp only at hj hl;have hD:F_100 N (code,u)=some (j,s,l,m,u0):=by unfold F_100; rw[hD0]; rfl
 refine ra hD (ra (q465 hM hj hl m u0) (ra hD ?_));rcases q366 hM j s l m with ⟨k,hk,e⟩ | ⟨o,T,e,hW,hP,hm⟩
 .rw[e];refine ro (fun _=>?_) fun h=>absurd h hk;refine ra (q436 hM hj hl m u0) ?_;rw[e];exact ri rfl (rb rfl)
 rw[e];refine ro (fun h=>absurd rfl h) fun _=>?_;have hjb:jobW N j=(0,some (o,T)):=by
  unfold rptW at e;rcases hq:jobW N j with ⟨k,_ | w⟩
  .rw[hq] at e; cases e
  .rw[hq] at e;simp only at e;rw[dec_of hm,dec_of hP] at e;simpa using e
 unfold rptR;dsimp only;refine rg (fun _=>rb rfl) fun h60=>?_;have ht:(B (rptT N j T s l m)).size<=6000:=by omega
 have hTell:TellP N j T (B (rptT N j T s l m)) s l m:=⟨hP,hm,rfl⟩;refine ra (q650 hM hj hW hjb ht hTell ()) (ra hD ?_);have hA:F_247 N (j,s,l,m,u0)=some (modeV (arrV N j T s l) m,0,()):=by refine Ret.eq ?_;unfold F_247;refine ra (q737 hM hj hl m ()) ?_;rw[e];exact ro (fun h=>absurd rfl h) fun _=>ra (q609 hM hj hW hl hP _) (ra (q269 hM hj hW _ hm _) (rb rfl))
 refine ra hA ?_;have hsp:=q43 hM hj hW hP (i:=l.length) (ab _);rw[aP] at hsp;have hbd:=q97 hM hj hW hsp m;refine ra (q50 hN hbd) ?_;have h31:=time31 hbd;unfold okR;dsimp only;generalize hgl:timeL (modeV (arrV N j T s l) m)=tl at h31;refine rj (by rw[B_size]; show 4+tl.length<=limS; unfold limS; omega) (rj (by rw[ByteArray.size_append,B_size]; show 4+tl.length+1<=limS; unfold limS; omega) ?_);refine ri rfl (ri rfl (ri rfl (ri rfl ?_)));refine ra (like_self hN hl ()) (ri rfl ?_);have et:((⟨#[101,110,100,32]⟩:ByteArray)++B tl)++(⟨#[10]⟩:ByteArray)=B ([101,110,100,32]++tl++[10]):=by rw[show (⟨#[101,110,100,32]⟩:ByteArray)=B [101,110,100,32] from rfl,show (⟨#[10]⟩:ByteArray)=B [10] from rfl,B_app,B_app]
 obtain ⟨p,hp,hpl⟩:∃ p,rptT N j T s l m=p++([101,110,100,32]++tl++[10])/\0<p.length:=⟨headT N j T s l m++linesT N j T s l m l.length,by unfold rptT; rw[hgl]; simp,by unfold headT; simp; omega⟩;rw[et];rw[hp,B_size,aY] at ht;exact ptr_tail hpl ht (by rw[hp])
end Go.Proofs.YtcmhpcoiomdekaaGreatDoor
