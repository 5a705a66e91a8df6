/- Texts parted at a byte,and the library's words for that. No program in sight. Contracts of library functions on plain data,out of the kit's shelf. No condition of its own. The iterator over a text's lines keeps its promise. No condition of its own. -/
import Derived.Test.YtefbaonpbemejabGreatDoorPgF
import Derived.Lib.Split
import Derived.Lib.CountLaws
import Derived.Test.YtefbaonpbemejabGreatDoorPgE
import Derived.Test.YtefbaonpbemejabGreatDoorShelf
import Derived.Shelf.Strings.SlTrimAscii
import Derived.Lib.AppendIntMem
import Derived.Test.YtefbaonpbemejabGreatDoorPgH
import Derived.WalkKit
import Derived.OwnWalkIn
import Derived.TacticsInMore
import Derived.LoopNIn
import Derived.LoopIn
import Derived.RangeFuncBox
import Derived.RegionIn
namespace Go.Proofs.YtefbaonpbemejabGreatDoor
set_option linter.unusedSimpArgs false
set_option linter.unusedVariables false
theorem q393(c:UInt8):∀ l,splitL c l≠[]
 | []=>by simp[splitL]
 | b :: l=>by
  unfold splitL;split
  .simp
  .split <;> simp
theorem q392(c:UInt8)(l:List UInt8):splitL c (c :: l)=[] :: splitL c l:=by simp[splitL]
theorem q138{c b:UInt8}(h:b≠c)(l:List UInt8):splitL c (b :: l)=(b :: (splitL c l).headD []) :: (splitL c l).tail:=by
 conv=>lhs; unfold splitL
 rw[aa h];cases hs:splitL c l with
 | nil=>exact absurd hs (q393 c l)
 | cons w ws=>rfl
theorem q71{c:UInt8}:∀(w rest:List UInt8),c∉w->splitL c (w++c :: rest)=w :: splitL c rest
 | [],rest,_=>q392 c rest
 | b :: w,rest,h=>by have hb:b≠c:=fun e=>h (by rw[e]; exact aO);have ih:=q71 w rest fun hm=>h (aN _ hm);rw[List.cons_append,q138 hb,ih]; rfl
theorem q219{c:UInt8}:∀(w:List UInt8),c∉w->splitL c w=[w]
 | [],_=>rfl
 | b :: w,h=>by have hb:b≠c:=fun e=>h (by rw[e]; exact aO);rw[q138 hb,q219 w fun hm=>h (aN _ hm)]; rfl
theorem q287(c:UInt8):∀ l,(splitL c l).length<=l.length+1
 | []=>by simp[splitL]
 | b :: l=>by
  have ih:=q287 c l;by_cases h:b=c
  .rw[h,q392]; simp; omega
  .rw[q138 h];have:0<(splitL c l).length:=List.length_pos_iff.2 (q393 c l);simp; omega
theorem q115(c:UInt8):∀ l,∀ w∈splitL c l,w.length<=l.length
 | [],w,h=>by simp[splitL] at h; simp[h]
 | b :: l,w,h=>by
  by_cases hb:b=c
  .rw[hb,q392] at h;rcases aw.1 h with rfl | h
   .simp
   .have:=q115 c l w h; simp; omega
  .rw[q138 hb] at h;rcases aw.1 h with rfl | h
   .cases hs:splitL c l with
    | nil=>exact absurd hs (q393 c l)
    | cons v vs=>
     have:=q115 c l v (by rw[hs]; exact aO);simp; omega
   .have:=q115 c l w (List.mem_of_mem_tail h); simp; omega
theorem q369{c:UInt8}:∀(w rest:List UInt8),c∉w->cutL c (w++c :: rest)=(w,rest,true)
 | [],rest,_=>by simp[cutL]
 | b :: w,rest,h=>by have hb:b≠c:=fun e=>h (by rw[e]; exact aO);have ih:=q369 w rest fun hm=>h (aN _ hm);rw[List.cons_append];unfold cutL;rw[aa hb,ih]
theorem q383(c:UInt8):∀ l:List UInt8,(Lib.index l [c] = -1/\c∉l)\/∃ i:Nat,Lib.index l [c]=(i:Int)/\i<l.length/\l=l.take i++c :: l.drop (i+1)/\c∉l.take i
 | [] => .inl ⟨rfl,by simp⟩
 | b :: l=>by
  unfold Lib.index;by_cases h:b=c
  .subst h;refine .inr ⟨0,?_,by simp,by simp,by simp⟩;simp[List.isPrefixOf]
  .have hp:([c].isPrefixOf (b :: l))=false:=by simp only[List.isPrefixOf,Bool.and_eq_false_iff,beq_eq_false_iff_ne];exact .inl fun e=>h e.symm
   rw[hp];rcases q383 c l with ⟨h1,h2⟩ | ⟨i,h1,h2,h3,h4⟩
   .refine .inl ⟨?_,?_⟩
    .rw[h1]; rfl
    .rw[aw,not_or]; exact ⟨fun e=>h e.symm,h2⟩
   .refine .inr ⟨i+1,?_,by simp; omega,?_,?_⟩
    .rw[h1];have:((i:Int) == -1)=false:=by rw[beq_eq_false_iff_ne]; omega
     simp[this]
    .rw[List.take_succ_cons,List.drop_succ_cons,List.cons_append,<- h3]
    .rw[List.take_succ_cons,aw,not_or]; exact ⟨fun e=>h e.symm,h4⟩
theorem q325(c:UInt8):∀(fuel:Nat)(l:List UInt8),l.length<fuel->Lib.countFrom [c] fuel l=l.count c
 | 0,l,h=>absurd h (br _)
 | fuel+1,l,h=>by
  unfold Lib.countFrom;rcases q383 c l with ⟨h1,h2⟩ | ⟨i,h1,h2,h3,h4⟩
  .rw[h1,ah (by decide),List.count_eq_zero_of_not_mem h2]
  .have:((i:Int) == -1)=false:=by rw[beq_eq_false_iff_ne]; omega
   rw[h1,this,aa (by simp),Int.toNat_natCast,List.length_singleton,q325 c fuel _ (by simp; omega)]
   conv=>rhs; rw[h3,List.count_append,List.count_cons_self,List.count_eq_zero_of_not_mem h4]
   omega
theorem q470(c:UInt8):∀(k:Nat)(l:List UInt8),l.count c<=k->Lib.splitK [c] 0 k l=splitL c l
 | 0,l,h=>by unfold Lib.splitK;rw[q219 _ (List.count_eq_zero.1 (by omega))]
 | k+1,l,h=>by
  unfold Lib.splitK;rcases q383 c l with ⟨h1,h2⟩ | ⟨i,h1,h2,h3,h4⟩
  .rw[h1,ah (by decide),q219 _ h2]
  .have:((i:Int) == -1)=false:=by rw[beq_eq_false_iff_ne]; omega
   have hc:l.count c=1+(l.drop (i+1)).count c:=by
    conv=>lhs; rw[h3,List.count_append,List.count_cons_self,List.count_eq_zero_of_not_mem h4]
    omega
   rw[h1,this,aa (by simp),Int.toNat_natCast,List.length_singleton,Nat.add_zero,q470 c k _ (by omega)]
   conv=>rhs; rw[h3,q71 _ _ h4]
theorem q674(c:UInt8)(s:ByteArray):Lib.splitB ⟨#[c]⟩ 0 (Lib.countB s ⟨#[c]⟩) s=(splitL c s.data.toList).map fun l=>(⟨l.toArray⟩:ByteArray):=by
 have h1:=Lib.splitB_data ⟨#[c]⟩ 0 (Lib.countB s ⟨#[c]⟩) s;have h2:Lib.countB s ⟨#[c]⟩=s.data.toList.count c:=q325 c _ _ (Nat.lt_succ_self _);rw[show ((⟨#[c]⟩:ByteArray).data.toList)=[c] from rfl,q470 c _ _ (by omega)] at h1;rw[<- h1,List.map_map]
 conv=>lhs; rw[<- List.map_id (Lib.splitB ⟨#[c]⟩ 0 (Lib.countB s ⟨#[c]⟩) s)]
 refine bG fun x _=>?_;cases x;simp
theorem q719{s:ByteArray}(h:s.size=1):s=⟨#[s.data.toList.headD 0]⟩:=by
 obtain ⟨⟨l⟩⟩:=s;have h:l.length=1:=h
 match l,h with
 | [b],_=>rfl
open Go.RowKit Go.Lib
theorem ResOk.ofFlat{S:FnSpec}{w w':World}{ok:Nat->Prop}{V:Value}{r:S.rs.den}(hown:S.own=[])(he:Ext w w')(vs:List Value)(hV:V=packR S.rs vs)(hr:S.rs.rp w' (fun _=>False) vs r):ResOk S w ok w' V r:=by refine ⟨fun _=>none,vs,hV,?_,⟨(fun id gh hg=>by cases hg),(fun id id' gh gh' b hg=>by cases hg),(fun id gh b hg=>by cases hg),BExt.ofExt he⟩⟩;rw[hown,q37];exact S.rs.acs_rc (Ty.rp_keep S.rs hr (fun _ _=>rfl) (fun _ h=>h.elim))
theorem q240{w:World}{ok:Nat->Prop}{b:Ty}{vs:List Value}{x:ByteArray×b.den}(h:ArgsOk w ok (.pair .str b) vs x):∃ us,vs = .string x.1 :: us/\x.1.size<=maxLen/\ArgsOk w ok b us x.2:=by
 cases vs with
 | nil=>exact h.elim
 | cons v us=>
  obtain ⟨⟨cs,hv,hc,hs⟩,hr⟩:=h;subst hc;exact ⟨us,by rw[hv]; rfl,hs,hr⟩
theorem q539{w:World}{ok:Nat->Prop}{k:IntKind}{b:Ty}{vs:List Value}{x:Int×b.den}(h:ArgsOk w ok (.pair (.int k) b) vs x):∃ us,vs = .int k x.1 :: us/\(Lit.int k x.1).wf=true/\ArgsOk w ok b us x.2:=by
 cases vs with
 | nil=>exact h.elim
 | cons v us=>
  obtain ⟨⟨cs,hv,hc,hs⟩,hr⟩:=h;subst hc;exact ⟨us,by rw[hv]; rfl,hs,hr⟩
theorem q310{w:World}{ok:Nat->Prop}{vs:List Value}{x:Unit}(h:ArgsOk w ok .nil vs x):vs=[]:=by
 cases vs with
 | nil=>rfl
 | cons v us=>exact h.elim
theorem q298{args:Array Value}{l:List Value}(h:args.toList=l):args=l.toArray:=by rw[<- h]
def PRE(w : World) : Prop := ∀ w', Below w.heap.size w w' → Lib.TabIs Tryz.prog w' "internal/strconv.uint64pow10" .u64 Lib.pow10Tab ∧ TabsAt [(0, q18)] w' ∧ (∃ m, w'.cell? ⟨1, 0, none⟩ = some (.int .i64 m)) ∧ (∃ ev, w'.cell? ⟨2, 0, none⟩ = some ev ∧ (ev = .nilIface ∨ ∃ te pe, ev = .iface te pe)) ∧ (∃ ev, w'.cell? ⟨3, 0, none⟩ = some ev ∧ (ev = .nilIface ∨ ∃ te pe, ev = .iface te pe))
theorem q588(w:World)(h:PRE w):TabsAt [(0,q18)] w:=(h w (Below.refl _ _)).2.1
theorem q193(w w':World)(h:PRE w)(e:Ext w w'):PRE w':=fun w'' hb=>h w'' (Below.trans e (Below.mono hb e.size))
theorem q714{w:World}{ok:Nat->Prop}{e b:Ty}{vs:List Value}{x:List e.den×b.den}(h:ArgsOk w ok (.pair (.slice e) b) vs x):∃ A cap us,vs = .slice A x.1.length cap :: us/\x.1.length<=cap/\cap<=maxLen/\
 (0<x.1.length->∃ b o,A=some ⟨b,o,none⟩/\ok b/\∀(i:Nat)(h:i<x.1.length),∃ us,e.rp w ok us x.1[i]/\q39 w b (o+i * e.sz) us)/\ArgsOk w ok b us x.2:=by
 cases vs with
 | nil=>exact h.elim
 | cons v us=>
  obtain ⟨⟨cs,hv,A,cap,hc,h1,h2,h3⟩,hr⟩:=h;subst hc;exact ⟨A,cap,us,by rw[hv]; rfl,h1,h2,h3,hr⟩
def q126(N:Nat):FnSpec:=⟨(.pair (.int .i64) (.pair (.int .i64) .nil)),(.pair .str .nil),[],q59 N,false⟩
theorem q246:q13 Tryz.prog 150:=⟨_,Tryz.func150,by kernel_rfl,by kernel_rfl⟩
theorem q229(N:Nat):Sound Tryz.prog PRE 150 (q126 N):=by
 intro w args x r ok hpre _ hA hx;obtain ⟨us,h1,h2,hA⟩:=q539 hA;obtain ⟨us',rfl,h3,hA⟩:=q539 hA;obtain rfl:=q310 hA;obtain rfl:=q298 h1;obtain ⟨hc,hx⟩:=q9 (show (bif decide (x.2.1=10) && decide ((Lib.itoa x.1).length<=30) then some ((⟨(Lib.itoa x.1).toArray⟩:ByteArray),()) else none)=some r from hx);cases hx;simp only[bO,ax] at hc;rw[hc.1];obtain ⟨b1,b2⟩:=wf_bd h2;refine (Tryz.strconv_FormatInt_10 x.1 b1 b2 w (hpre w (Below.refl _ _)).1).mono fun e w' ⟨he,k,os,hw⟩=>⟨_,he,ResOk.ofFlat rfl ?_ [_] rfl ⟨[_],[],rfl,⟨rfl,?_⟩,rfl⟩⟩
 .rw[hw];exact below_grow _ _ (af _) _ _
 .have:(⟨(Lib.itoa x.1).toArray⟩:ByteArray).size=(Lib.itoa x.1).length:=by simp[ByteArray.size]
  rw[this]; unfold maxLen; omega
def q222(N:Nat):FnSpec:=⟨(.pair (.slice .str) (.pair .str .nil)),(.pair .str .nil),[],q139 N,false⟩
theorem q412:q13 Tryz.prog 89:=⟨_,Tryz.func89,by kernel_rfl,by kernel_rfl⟩
theorem q407(N:Nat):Sound Tryz.prog PRE 89 (q222 N):=by
 intro w args x r ok hpre hlow hA hx;obtain ⟨A,cap,us,h1,hc1,hc2,hc3,hA⟩:=q714 hA;obtain ⟨us',rfl,h3,hA⟩:=q240 hA;obtain rfl:=q310 hA;obtain rfl:=q298 h1;obtain ⟨hc,hx⟩:=q9 (show (bif decide (x.1.length<=140737488355328) && decide ((Lib.join (x.1.map (·.data.toList)) x.2.1.data.toList).length<=140737488355328) then some ((⟨(Lib.join (x.1.map (·.data.toList)) x.2.1.data.toList).toArray⟩:ByteArray),()) else none)=some r from hx);cases hx;simp only[bO,ax] at hc;have hsz:(⟨(Lib.join (x.1.map (·.data.toList)) x.2.1.data.toList).toArray⟩:ByteArray).size<=maxLen:=by
  have:(⟨(Lib.join (x.1.map (·.data.toList)) x.2.1.data.toList).toArray⟩:ByteArray).size=(Lib.join (x.1.map (·.data.toList)) x.2.1.data.toList).length:=by simp[ByteArray.size]
  rw[this]; unfold maxLen; omega
 obtain ⟨xs,sep,u⟩:=x;rcases Nat.eq_zero_or_pos xs.length with h0 | h0
 .have:xs=[]:=al h0;subst this;exact (Tryz.strings_Join_none A cap sep w).mono fun e w' ⟨he,hw⟩=>⟨_,he,ResOk.ofFlat rfl (by rw[hw]; exact Ext.refl w) [_] rfl ⟨[_],[],rfl,⟨rfl,hsz⟩,rfl⟩⟩
 .obtain ⟨b,o,rfl,hb,hcs⟩:=hc3 h0;refine (Tryz.strings_Join b o cap xs sep w (fun j y hj=>?_) (hlow b hb) hc.1 hc1 hc.2).mono fun e w' ⟨he,hw⟩=>⟨_,he,ResOk.ofFlat rfl hw [_] rfl ⟨[_],[],rfl,⟨rfl,hsz⟩,rfl⟩⟩;obtain ⟨hlt,hye⟩:=List.getElem?_eq_some_iff.1 hj;obtain ⟨us,hr,hu⟩:=hcs j hlt;obtain ⟨rfl,_⟩:=hr;have:=hu 0 _ rfl;simp only[Ty.sz,Nat.mul_one,Nat.add_zero] at this;rw[this];exact congrArg (fun z=>some (Value.string z)) hye
def q121(N:Nat):FnSpec:=⟨(.pair .str (.pair (.int .u8) .nil)),(.pair (.int .i64) .nil),[],q57 N,false⟩
theorem q236:q13 Tryz.prog 70:=⟨_,Tryz.func70,by kernel_rfl,by kernel_rfl⟩
theorem q332(c:UInt8):∀ l:List UInt8,-1<=Lib.indexByte l c/\Lib.indexByte l c<=(l.length:Int)
 | []=>by simp[Lib.indexByte]
 | b :: l=>by
  have:=q332 c l;simp only[Lib.indexByte,List.length_cons];split
  .omega
  .split
   .omega
   .rename_i h _ ; push_cast; omega
theorem q512(l:List UInt8)(c:UInt8)(h:l.length<=maxLen):(Lit.int .i64 (Lib.indexByte l c)).wf=true:=by have:=q332 c l;unfold maxLen at h;exact wf_of (by show (-9223372036854775808:Int)<=_; omega) (by show _<=(9223372036854775807:Int); omega)
theorem q241(N:Nat):Sound Tryz.prog PRE 70 (q121 N):=by intro w args x r ok _ _ hA hx;obtain ⟨us,h1,h2,hA⟩:=q240 hA;obtain ⟨us',rfl,h3,hA⟩:=q539 hA;obtain rfl:=q310 hA;obtain rfl:=q298 h1;cases hx;exact (Tryz.strings_IndexByte x.1 x.2.1 w).mono fun e w' ⟨he,hw⟩=>⟨_,he,ResOk.ofFlat rfl (by rw[hw]; exact Ext.refl w) [_] rfl ⟨[_],[],rfl,⟨rfl,q512 _ _ (by simpa using h2)⟩,rfl⟩⟩
def q225(N:Nat):FnSpec:=⟨(.pair .str (.pair .str .nil)),(.pair .str .nil),[],q95 N,false⟩
theorem q414:q13 Tryz.prog 177:=⟨_,Tryz.func177,by kernel_rfl,by kernel_rfl⟩
theorem q706(l cs:List UInt8):(Lib.trimS l cs).length<=l.length:=by unfold Lib.trimS Lib.trimLeftS Lib.trimRightS;refine bn (List.dropWhile_sublist _).length_le ?_;rw[List.length_reverse];refine bn (List.dropWhile_sublist _).length_le ?_;rw[List.length_reverse];exact af _
theorem q410(N:Nat):Sound Tryz.prog PRE 177 (q225 N):=by intro w args x r ok _ _ hA hx;obtain ⟨us,h1,h2,hA⟩:=q240 hA;obtain ⟨us',rfl,h3,hA⟩:=q240 hA;obtain rfl:=q310 hA;obtain rfl:=q298 h1;obtain ⟨hc,hx⟩:=q9 (show (bif (x.2.1.data.toList.all fun b=>decide (b.toNat<128)) && decide (x.2.1.size<4294967281) then some ((⟨(Lib.trimS x.1.data.toList x.2.1.data.toList).toArray⟩:ByteArray),()) else none)=some r from hx);cases hx;simp only[bO,ax] at hc;exact (Any.strings_Trim_laid Tryz.lays160 (by kernel_rfl) x.1 x.2.1 w (by unfold maxLen at h2; omega) hc.2 (ascii_of_all hc.1)).mono fun e w' ⟨he,hw⟩=>⟨_,he,ResOk.ofFlat rfl hw [_] rfl ⟨[_],[],rfl,⟨rfl,bn (q706 _ _) h2⟩,rfl⟩⟩
theorem ResOk.ofData{S:FnSpec}{w w':World}{ok:Nat->Prop}{V:Value}{r:S.rs.den}(hown:S.own=[])(he:Ext w w')(vs:List Value)(hV:V=packR S.rs vs)(hr:S.rs.rp w' (imm (Base.of w) ok w' fun _=>none) vs r):ResOk S w ok w' V r:=by refine ⟨fun _=>none,vs,hV,?_,⟨(fun id gh hg=>by cases hg),(fun id id' gh gh' b hg=>by cases hg),(fun id gh b hg=>by cases hg),BExt.ofExt he⟩⟩;rw[hown,q37];exact S.rs.acs_rc hr
def q189(N:Nat):FnSpec:=⟨(.pair .str (.pair .str .nil)),(.pair (.slice .str) .nil),[],q83 N,false⟩
theorem q367:q13 Tryz.prog 72:=⟨_,Tryz.func72,by kernel_rfl,by kernel_rfl⟩
theorem q366(N:Nat):Sound Tryz.prog PRE 72 (q189 N):=by
 intro w args x r ok hpre _ hA hx;obtain ⟨us,h1,h2,hA⟩:=q240 hA;obtain ⟨us',rfl,h3,hA⟩:=q240 hA;obtain rfl:=q310 hA;obtain rfl:=q298 h1;obtain ⟨s,sep,u⟩:=x;obtain ⟨hc,hx⟩:=q9 (show (bif decide (sep.size=1) && decide (s.size<4294967281) then some (((splitL (sep.data.toList.headD 0) s.data.toList).map (fun l=>(⟨l.toArray⟩:ByteArray)),()):List ByteArray×Unit) else none)=some r from hx);cases hx;simp only[bO,ax] at hc;have hsep:=q719 hc.1;obtain ⟨m,hm⟩:=(hpre w (Below.refl _ _)).2.2.1;have hb:=q674 (sep.data.toList.headD 0) s;rw[<- hsep] at hb;have hlen:(splitL (sep.data.toList.headD 0) s.data.toList).length=Lib.countB s sep+1:=by have:=congrArg List.length (show Lib.splitB sep 0 (Lib.countB s sep) s=_ from hb);rw[aJ] at this;rw[<- this];exact Lib.splitB_all sep (by omega) 0 _ s rfl
 have hle:=q287 (sep.data.toList.headD 0) s.data.toList;have hss:s.data.toList.length=s.size:=by rw[Array.length_toList]; rfl
 refine (Tryz.strings_Split s sep m w hc.2 hm (by omega)).mono fun e w' ⟨he,hw⟩=>⟨_,he,ResOk.ofData rfl (by rw[hw]; exact (Ext.refl w).alloc _) [_] rfl ⟨[_],[],rfl,⟨some ⟨w.heap.size,0,none⟩,Lib.countB s sep+1,?_,?_,?_,fun _=>⟨w.heap.size,0,rfl,⟨.inr (.inl (af _)),?_,fun _ _ h=>by cases h⟩,fun i hi=>⟨[.string ((splitL (sep.data.toList.headD 0) s.data.toList).map (fun l=>(⟨l.toArray⟩:ByteArray)))[i]],⟨rfl,?_⟩,fun q v hq=>?_⟩⟩⟩,rfl⟩⟩
 .rw[aJ,hlen]
 .rw[aJ,hlen]; exact af _
 .unfold maxLen; omega
 .rw[hw]; simp
 .rw[bP];have:=q115 (sep.data.toList.headD 0) s.data.toList _ (List.getElem_mem (n:=i) (by simpa using hi));have e:∀ l:List UInt8,(⟨l.toArray⟩:ByteArray).size=l.length:=fun l=>by simp[ByteArray.size]
  rw[e]; unfold maxLen at h2 |-; omega
 .match q,hq with
  | 0,hq=>
   simp only[List.getElem?_cons_zero,ag] at hq;subst hq;rw[hw,hb,q23 (heap_alloc_new w _)];simp[Ty.sz]
  | q+1,hq=>simp at hq
theorem q544{l:List UInt8}{v:Int}(h:Lib.parseIntB 64 l = .ok v) : -9223372036854775808<=v/\v<=9223372036854775807:=by
 unfold Lib.parseIntB at h;split at h
 .cases h
 .simp only at h;split at h
  .cases h
  .cases h
  .rename_i u hu;have e:(2:Nat) ^ (64 - 1)=9223372036854775808:=rfl;rw[e] at h;split at h
   .cases h
   .split at h
    .cases h
    .cases h;split <;> omega
def badInt(l:List UInt8):Int:=match Lib.parseIntB 64 l with
 | .range=>Lib.intSat 64 l
 | _=>0
theorem q675(l:List UInt8) : -9223372036854775808<=badInt l/\badInt l<=9223372036854775807:=by
 unfold badInt;split
 .unfold Lib.intSat;have e:(2:Nat) ^ (64 - 1)=9223372036854775808:=rfl;rw[e];split <;> simp
 .omega
theorem q537(s:ByteArray)(hs:s.size<4294967281)(w:World)(hpre:PRE w):
 Calls Tryz.prog 133 #[.string s,.int .i64 10,.int .i64 64] w fun e w'=>Ext w w'/\
  ((∃ v,Lib.parseIntB 64 s.data.toList = .ok v/\e = .returned (.tuple #[.int .i64 v,.nilIface]))\/
   ((∀ v,Lib.parseIntB 64 s.data.toList ≠ .ok v)/\∃ te pv,e = .returned (.tuple #[.int .i64 (badInt s.data.toList),.iface te pv]))):=by
 obtain ⟨_,_,_,⟨ev1,hv1,he1⟩,⟨ev2,hv2,he2⟩⟩:=hpre w (Below.refl _ _);cases hp:Lib.parseIntB 64 s.data.toList with
 | ok v=>exact (Tryz.strconv_ParseInt_10_at64_ok s (by omega) v hp w).mono fun e w' ⟨he,hw⟩=>⟨by
  rcases hw with rfl | ⟨t,rfl⟩
  .exact Ext.refl _
  .exact Lib.bytesWorld_below _ _ _,.inl ⟨v,rfl,he⟩⟩
 | range=>
  rw[show badInt s.data.toList=Lib.intSat 64 s.data.toList by simp only[badInt,hp]];exact (Tryz.strconv_ParseInt_10_at64_range s (by omega) hp ev2 w hv2 he2).mono fun e w' ⟨N,he,_,_,hb⟩=>⟨hb,.inr ⟨(fun v h=>nomatch h),_,_,he⟩⟩
 | _=>
  rw[show badInt s.data.toList=0 by simp only[badInt,hp]];exact (Any.strconv_ParseInt_10_at64_syntax Tryz.laysC174 s (by omega) hp ev1 w hv1 he1).mono fun e w' ⟨N,he,_,_,hb⟩=>⟨hb,.inr ⟨(fun v h=>nomatch h),_,_,he⟩⟩
theorem q762{f:FuncId}{own:List Bool}{F:Int×Unit->Option (ByteArray×Unit)}(h:Sound Tryz.prog PRE f ⟨.pair (.int .i64) .nil,.pair .str .nil,own,F,false⟩){v:Int}{y:ByteArray}{w:World}(hpre:PRE w)(hv : -9223372036854775808<=v/\v<=9223372036854775807)(hF:F (v,())=some (y,())):
 Calls Tryz.prog f #[.int .i64 v] w fun e w'=>e = .returned (.string y)/\Ext w w':=by
 refine (h w #[.int .i64 v] (v,()) (y,()) (fun _=>False) hpre (fun b hb=>hb.elim) ⟨⟨[.int .i64 v],rfl,rfl,wf_of (by show (-9223372036854775808:Int)<=_; exact hv.1) (by show _<=(9223372036854775807:Int); exact hv.2)⟩,trivial⟩ hF).mono fun e w' ⟨V,he,hres⟩=>?_;obtain ⟨G,vs,rfl,hr,hst⟩:=hres;refine ⟨?_,hst.ext.of⟩;have hcs:(ownAcs false own 0 [AC.str y]).1=[AC.str y]:=by
  cases own with
  | nil=>rfl
  | cons b fs=>rw[q29 _ _ _ _ _ (.inr (by intro e xs h; cases h)),q69]
 have hr':RCs w' (imm (Base.of w) (fun _=>False) w' G) G (ownAcs false own 0 [AC.str y]).1 vs:=hr;rw[hcs] at hr';obtain ⟨v',rfl,hv',_⟩:=hr'.one;rw[he,hv'];rfl
set_option maxRecDepth 100000 in
set_option maxHeartbeats 2000000 in
theorem q447{own:List Bool}{F:Int×Unit->Option (ByteArray×Unit)}(h:Sound Tryz.prog PRE 91 ⟨.pair (.int .i64) .nil,.pair .str .nil,own,F,false⟩):Sound Tryz.prog PRE 75 ⟨.pair .str .nil,.pair (.int .i64) (.pair .bool .nil),[],q449 F,false⟩:=by
 intro w args x r ok hpre _ hA hx;obtain ⟨us,h1,h2,hA⟩:=q240 hA;obtain rfl:=q310 hA;obtain rfl:=q298 h1;obtain ⟨s,u⟩:=x
 obtain ⟨hc,hx⟩:=q9 (show (bif decide (s.size<4294967281) then (match Lib.parseIntB 64 s.data.toList with
  | .ok v=>obind (F (v,())) fun r=>some (v,decide (r.1=s),())
  | .range=>some (Lib.intSat 64 s.data.toList,false,())
  | _=>some ((0,false,()):Int×Bool×Unit)) else none)=some r from hx)
 have hs:s.size<4294967281:=bM hc;have hfin:Calls Tryz.prog 75 #[.string s] w fun e w'=>∃ v b,r=(v,b,())/\e = .returned (.tuple #[.int .i64 v,.bool b])/\Ext w w' /\ -9223372036854775808<=v/\v<=9223372036854775807:=by
  have hpi:=q537 s hs w hpre
  go_enter Tryz.func75,Tryz.ntmps75
  go_wp2_with (first | fail)
  go_at_call 133
  refine hpi.mono ?_;rintro e w2 ⟨k2,⟨v,hv,rfl⟩ | ⟨hno,te,pv,rfl⟩⟩
  .rw[hv] at hx;obtain ⟨⟨y,uy⟩,hF,hx⟩:=q15 hx;have hbd:=q544 hv;have hft:=q762 h (q193 w w2 hpre k2) hbd hF;by_cases hy:y=s
   .have hbeq:(y.toList == ByteArray.toList s)=true:=(Lib.bytes_beq_iff y s).2 hy
    go_wp2_with (first | (go_at_call 91; refine hft.mono ?_; rintro e w3 ⟨rfl,k3⟩))
    go_ret2
    rw[aB hy] at hx;cases hx;exact ⟨v,true,rfl,rfl,k2.trans k3,hbd⟩
   .have hbeq:(y.toList == ByteArray.toList s)=false:=(Lib.bytes_beq_false_iff y s).2 hy
    go_wp2_with (first | (go_at_call 91; refine hft.mono ?_; rintro e w3 ⟨rfl,k3⟩))
    go_ret2
    rw[bo hy] at hx;cases hx;exact ⟨v,false,rfl,rfl,k2.trans k3,hbd⟩
  .go_wp2
   go_ret2
   have hx:some ((badInt s.data.toList,false,()):Int×Bool×Unit)=some r:=by
    unfold badInt;revert hx;cases hp:Lib.parseIntB 64 s.data.toList with
    | ok v=>exact absurd hp (hno v)
    | range=>exact fun hx=>hx
    | _=>exact fun hx=>hx
   cases hx;exact ⟨_,false,rfl,rfl,k2,q675 _⟩
 refine hfin.mono fun e w' ⟨v,b,hr,he,hw,b1,b2⟩=>⟨_,he,ResOk.ofFlat rfl hw [_,_] rfl ?_⟩;subst hr;exact ⟨[_],[_],rfl,⟨rfl,wf_of (by show (-9223372036854775808:Int)<=_; exact b1) (by show _<=(9223372036854775807:Int); exact b2)⟩,[_],[],rfl,rfl,rfl⟩
theorem q395:∀ l:List UInt8,l≠[]->(Lib.indexByte l 10 = -1/\linesL l=[l])\/∃ i:Nat,Lib.indexByte l 10=(i:Int)/\i<l.length/\linesL l=l.take (i+1) :: linesL (l.drop (i+1))
 | [],h=>absurd rfl h
 | c :: l,_=>by
  by_cases hc:c=10
  .subst hc;refine .inr ⟨0,by simp[Lib.indexByte],by simp,by simp[linesL]⟩
  .have hb:(c == 10)=false:=by simpa using hc
   cases l with
   | nil=>exact .inl ⟨by simp[Lib.indexByte,hc],by simp[linesL,hb]⟩
   | cons d l=>
    rcases q395 (d :: l) (by simp) with ⟨h1,h2⟩ | ⟨i,h1,h2,h3⟩
    .refine .inl ⟨?_,?_⟩
     .unfold Lib.indexByte; simp[hc,h1]
     .rw[linesL,hb,cond_false,h2]
    .refine .inr ⟨i+1,?_,by simp at h2 |-; omega,?_⟩
     .unfold Lib.indexByte; simp[hc,h1]
     .rw[linesL,hb,cond_false,h3];simp
def boxLen(w:World)(b:Nat):Nat:=match w.cell? ⟨b,0,none⟩ with
 | some (.string s)=>s.size
 | _=>0
theorem q513{s:ByteArray}(h:0<s.size):(Lib.indexByte s.data.toList 10 = -1/\q53 s=[s])\/∃ i:Nat,Lib.indexByte s.data.toList 10=(i:Int)/\i<s.size/\q53 s=s.extract 0 (i+1) :: q53 (s.extract (i+1) s.size):=by
 have hl:s.data.toList.length=s.size:=by rw[Array.length_toList]; rfl
 have e:∀ a b:Nat,(s.extract a b).data.toList=(s.data.toList.take b).drop a:=fun a b=>by rw[ByteArray.data_extract,Array.toList_extract,List.extract_eq_take_drop,List.drop_take]
 have ext:∀{x y:ByteArray},x.data.toList=y.data.toList->x=y:=fun {x y} h=>by cases x; cases y; simp at h; simp[h]
 rcases q395 s.data.toList (fun e=>by rw[e] at hl; simp at hl; omega) with ⟨h1,h2⟩ | ⟨i,h1,h2,h3⟩
 .refine .inl ⟨h1,?_⟩;unfold q53;rw[h2];simp
 .refine .inr ⟨i,h1,by omega,?_⟩;unfold q53;rw[h3,List.map_cons];congr 1
  .refine ext ?_;rw[e];simp
  .rw[e,List.take_of_length_le (by rw[hl]; exact af _)]
set_option maxRecDepth 100000 in
set_option maxHeartbeats 2000000 in
theorem q746:q441 Tryz.prog PRE 69:=by
 intro n l sid t s J Jx W hs hJ hJx hY hPre h0 hbox;refine callsIn_of_wp Tryz.func69 rfl trivial ?_ rfl;simp only[Tryz.ntmps69,List.size_toArray,List.length_cons,List.length_nil,Nat.reduceAdd,Nat.reduceSub,Array.replicate_succ,Array.replicate_zero,List.push_toArray,List.append_toArray,List.nil_append,List.cons_append]
 gi_wp2
 gi_loopw [] (fun wr=>∃ (pre:List ByteArray) (r:ByteArray),pre++q53 r=q53 s/\r.size<=s.size/\J pre wr/\wr.heap[sid]?=some (.cells #[.string r] t (0,0))) (fun wr=>boxLen wr sid)
 case atStart=>
  exact ⟨[],s,rfl,af _,h0,hbox⟩
 case round=>
  obtain ⟨pre,r,hp,hr,hj,hb⟩:=hrel;have hc:=Boxed.cell hb;have hfz:=Boxed.frozen hb;have hib:∀ n,CallsIn (wideAt none) n Tryz.prog 70 #[.string r,.int .u8 10] wr fun e w'=>e = .returned (.int .i64 (Lib.indexByte r.data.toList 10))/\w'=wr:=fun n=>q428 (Tryz.strings_IndexByte r 10 wr);by_cases hz:0<r.size
  .rcases q513 hz with ⟨h1,h2⟩ | ⟨i,h1,h2,h3⟩
   .simp only[h1] at hib;have hj2:=hJ pre wr (wr.setCell ⟨sid,0,none⟩ (.string ⟨#[]⟩)) hj ((Below.refl 0 wr).setCell (p:=⟨sid,0,none⟩) (Nat.zero_le _) _) (fun b _ hne=>Below.heap_setCell _ _ _ b hne);have hb2:=Boxed.set (.string ⟨#[]⟩) hb;rw[h2] at hp;obtain ⟨fn,tmps,assign,body,hy,hR⟩:=hY (n - 1) pre r [] _ hp hj2
    gi_wp2_with (first | (refine ⟨trivial,(fun h=>by cases h),?_⟩; gi_at_call 70; refine (hib _).mono ?_; rintro e w1 ⟨rfl,hw1⟩; have hw2:=hw1.symm; subst hw2))
    refine ⟨(fun h=>by cases h),hR.mono ?_⟩;rintro e W3 ⟨hs3,⟨rfl,hj3⟩ | ⟨rfl,hjx3⟩⟩
    .have hb3:Boxed W3 sid t (.string ⟨#[]⟩):=hs3.trans hb2
     gi_wp2
     go_roundw
     case rel=>exact ⟨pre++[r],⟨#[]⟩,by rw[<- hp]; simp[q53,linesL],Nat.zero_le _,hj3,hb3⟩
     case measure=>
      unfold boxLen;rw[hb3.cell,hc];exact hz
    .gi_wp2
     refine bodyPost_ret (results_none rfl _ _ _) rfl ?_;exact ⟨⟨_,rfl⟩,.inr ⟨_,hjx3⟩⟩
   .simp only[h1] at hib
    gi_wp2_with (first | (refine ⟨trivial,(fun h=>by cases h),?_⟩; gi_at_call 70; refine (hib _).mono ?_; rintro e w1 ⟨rfl,hw1⟩; have hw2:=hw1.symm; subst hw2))
    have hw1:wq ((i:Int)+1)=((i+1:Nat):Int):=by rw[wrapI (by omega) (by unfold maxLen at hs; omega)]; omega
    gi_region
    have hj2:=hJ pre wr (wr.setCell ⟨sid,0,none⟩ (.string (r.extract (i+1) r.size))).drew hj (Below.drew ((Below.refl 0 wr).setCell (p:=⟨sid,0,none⟩) (Nat.zero_le _) _)) (fun b _ hne=>Below.heap_setCell _ _ _ b hne);have hb2:Boxed (wr.setCell ⟨sid,0,none⟩ (.string (r.extract (i+1) r.size))).drew sid t (.string (r.extract (i+1) r.size)):=Boxed.set (.string (r.extract (i+1) r.size)) hb;have hsz:(r.extract (i+1) r.size).size=r.size - (i+1):=by rw[ByteArray.size_extract]; omega
    rw[h3] at hp;obtain ⟨fn,tmps,assign,body,hy,hR⟩:=hY (n - 1) pre (r.extract 0 (i+1)) (q53 (r.extract (i+1) r.size)) _ hp hj2
    gi_wp2
    refine ⟨(fun h=>by cases h),hR.mono ?_⟩;rintro e W3 ⟨hs3,⟨rfl,hj3⟩ | ⟨rfl,hjx3⟩⟩
    .have hb3:Boxed W3 sid t (.string (r.extract (i+1) r.size)):=hs3.trans hb2
     gi_wp2
     go_roundw
     case rel=>exact ⟨pre++[r.extract 0 (i+1)],r.extract (i+1) r.size,by rw[<- hp]; simp,by omega,hj3,hb3⟩
     case measure=>
      unfold boxLen;rw[hb3.cell,hc];show (r.extract (i+1) r.size).size<r.size;omega
    .gi_wp2
     refine bodyPost_ret (results_none rfl _ _ _) rfl ?_;exact ⟨⟨_,rfl⟩,.inr ⟨_,hjx3⟩⟩
  .have he:r.size=0:=by omega
   gi_wp2
   go_end0
   have hr0:q53 r=[]:=by
    have hl:r.data.toList.length=r.size:=by rw[Array.length_toList]; rfl
    have:r.data.toList=[]:=al (by omega);unfold q53;rw[this];rfl
   rw[hr0,List.append_nil] at hp;exact ⟨⟨_,rfl⟩,.inl (by rw[<- hp]; exact hj)⟩
end Go.Proofs.YtefbaonpbemejabGreatDoor
