/- Texts parted at a byte,and the library's words for that. No program in sight. Contracts of library functions on plain data,out of the kit's shelf. No condition of its own. The iterator over a text's lines keeps its promise. No condition of its own. -/
import Derived.Test.YtefbaonpbemejaaGreatDoorPgF
import Derived.Lib.Split
import Derived.Lib.CountLaws
import Derived.Test.YtefbaonpbemejaaGreatDoorPgE
import Derived.Test.YtefbaonpbemejaaGreatDoorShelf
import Derived.Shelf.Strings.SlTrimAscii
import Derived.Lib.AppendIntMem
import Derived.Test.YtefbaonpbemejaaGreatDoorPgH
import Derived.WalkKit
import Derived.OwnWalkIn
import Derived.TacticsInMore
import Derived.LoopNIn
import Derived.LoopIn
import Derived.RangeFuncBox
import Derived.RegionIn
namespace Go.Proofs.YtefbaonpbemejaaGreatDoor
set_option linter.unusedSimpArgs false
set_option linter.unusedVariables false
theorem q414(c:UInt8):∀ l,splitL c l≠[]
 | []=>by simp[splitL]
 | b :: l=>by
  unfold splitL;split
  .simp
  .split <;> simp
theorem q284(c:UInt8)(l:List UInt8):splitL c (c :: l)=[] :: splitL c l:=by simp[splitL]
theorem q83{c b:UInt8}(h:b≠c)(l:List UInt8):splitL c (b :: l)=(b :: (splitL c l).headD []) :: (splitL c l).tail:=by
 conv=>lhs; unfold splitL
 rw[aa h];cases hs:splitL c l with
 | nil=>exact absurd hs (q414 c l)
 | cons w ws=>rfl
theorem q138{c:UInt8}:∀(w rest:List UInt8),c∉w->splitL c (w++c :: rest)=w :: splitL c rest
 | [],rest,_=>q284 c rest
 | b :: w,rest,h=>by have hb:b≠c:=fun e=>h (by rw[e]; exact aM);have ih:=q138 w rest fun hm=>h (aV _ hm);rw[List.cons_append,q83 hb,ih]; rfl
theorem q241{c:UInt8}:∀(w:List UInt8),c∉w->splitL c w=[w]
 | [],_=>rfl
 | b :: w,h=>by have hb:b≠c:=fun e=>h (by rw[e]; exact aM);rw[q83 hb,q241 w fun hm=>h (aV _ hm)]; rfl
theorem q315(c:UInt8):∀ l,(splitL c l).length<=l.length+1
 | []=>by simp[splitL]
 | b :: l=>by
  have ih:=q315 c l;by_cases h:b=c
  .rw[h,q284]; simp; omega
  .rw[q83 h];have:0<(splitL c l).length:=List.length_pos_iff.2 (q414 c l);simp; omega
theorem q128(c:UInt8):∀ l,∀ w∈splitL c l,w.length<=l.length
 | [],w,h=>by simp[splitL] at h; simp[h]
 | b :: l,w,h=>by
  by_cases hb:b=c
  .rw[hb,q284] at h;rcases au.1 h with rfl | h
   .simp
   .have:=q128 c l w h; simp; omega
  .rw[q83 hb] at h;rcases au.1 h with rfl | h
   .cases hs:splitL c l with
    | nil=>exact absurd hs (q414 c l)
    | cons v vs=>
     have:=q128 c l v (by rw[hs]; exact aM);simp; omega
   .have:=q128 c l w (List.mem_of_mem_tail h); simp; omega
theorem q195{c:UInt8}:∀(w rest:List UInt8),c∉w->cutL c (w++c :: rest)=(w,rest,true)
 | [],rest,_=>by simp[cutL]
 | b :: w,rest,h=>by have hb:b≠c:=fun e=>h (by rw[e]; exact aM);have ih:=q195 w rest fun hm=>h (aV _ hm);rw[List.cons_append];unfold cutL;rw[aa hb,ih]
theorem q286(c:UInt8):∀ l:List UInt8,(Lib.index l [c] = -1/\c∉l)\/∃ i:Nat,Lib.index l [c]=(i:Int)/\i<l.length/\l=l.take i++c :: l.drop (i+1)/\c∉l.take i
 | [] => .inl ⟨rfl,by simp⟩
 | b :: l=>by
  unfold Lib.index;by_cases h:b=c
  .subst h;refine .inr ⟨0,?_,by simp,by simp,by simp⟩;simp[List.isPrefixOf]
  .have hp:([c].isPrefixOf (b :: l))=false:=by simp only[List.isPrefixOf,Bool.and_eq_false_iff,beq_eq_false_iff_ne];exact .inl fun e=>h e.symm
   rw[hp];rcases q286 c l with ⟨h1,h2⟩ | ⟨i,h1,h2,h3,h4⟩
   .refine .inl ⟨?_,?_⟩
    .rw[h1]; rfl
    .rw[au,not_or]; exact ⟨fun e=>h e.symm,h2⟩
   .refine .inr ⟨i+1,?_,by simp; omega,?_,?_⟩
    .rw[h1];have:((i:Int) == -1)=false:=by rw[beq_eq_false_iff_ne]; omega
     simp[this]
    .rw[List.take_succ_cons,List.drop_succ_cons,List.cons_append,<- h3]
    .rw[List.take_succ_cons,au,not_or]; exact ⟨fun e=>h e.symm,h4⟩
theorem q217(c:UInt8):∀(fuel:Nat)(l:List UInt8),l.length<fuel->Lib.countFrom [c] fuel l=l.count c
 | 0,l,h=>absurd h (bu _)
 | fuel+1,l,h=>by
  unfold Lib.countFrom;rcases q286 c l with ⟨h1,h2⟩ | ⟨i,h1,h2,h3,h4⟩
  .rw[h1,ag (by decide),List.count_eq_zero_of_not_mem h2]
  .have:((i:Int) == -1)=false:=by rw[beq_eq_false_iff_ne]; omega
   rw[h1,this,aa (by simp),Int.toNat_natCast,List.length_singleton,q217 c fuel _ (by simp; omega)]
   conv=>rhs; rw[h3,List.count_append,List.count_cons_self,List.count_eq_zero_of_not_mem h4]
   omega
theorem q553(c:UInt8):∀(k:Nat)(l:List UInt8),l.count c<=k->Lib.splitK [c] 0 k l=splitL c l
 | 0,l,h=>by unfold Lib.splitK;rw[q241 _ (List.count_eq_zero.1 (by omega))]
 | k+1,l,h=>by
  unfold Lib.splitK;rcases q286 c l with ⟨h1,h2⟩ | ⟨i,h1,h2,h3,h4⟩
  .rw[h1,ag (by decide),q241 _ h2]
  .have:((i:Int) == -1)=false:=by rw[beq_eq_false_iff_ne]; omega
   have hc:l.count c=1+(l.drop (i+1)).count c:=by
    conv=>lhs; rw[h3,List.count_append,List.count_cons_self,List.count_eq_zero_of_not_mem h4]
    omega
   rw[h1,this,aa (by simp),Int.toNat_natCast,List.length_singleton,Nat.add_zero,q553 c k _ (by omega)]
   conv=>rhs; rw[h3,q138 _ _ h4]
theorem q739(c:UInt8)(s:ByteArray):Lib.splitB ⟨#[c]⟩ 0 (Lib.countB s ⟨#[c]⟩) s=(splitL c s.data.toList).map fun l=>(⟨l.toArray⟩:ByteArray):=by
 have h1:=Lib.splitB_data ⟨#[c]⟩ 0 (Lib.countB s ⟨#[c]⟩) s;have h2:Lib.countB s ⟨#[c]⟩=s.data.toList.count c:=q217 c _ _ (Nat.lt_succ_self _);rw[show ((⟨#[c]⟩:ByteArray).data.toList)=[c] from rfl,q553 c _ _ (by omega)] at h1;rw[<- h1,List.map_map]
 conv=>lhs; rw[<- List.map_id (Lib.splitB ⟨#[c]⟩ 0 (Lib.countB s ⟨#[c]⟩) s)]
 refine bM fun x _=>?_;cases x;simp
theorem q776{s:ByteArray}(h:s.size=1):s=⟨#[s.data.toList.headD 0]⟩:=by
 obtain ⟨⟨l⟩⟩:=s;have h:l.length=1:=h
 match l,h with
 | [b],_=>rfl
open Go.RowKit Go.Lib
theorem ResOk.ofFlat{S:FnSpec}{w w':World}{ok:Nat->Prop}{V:Value}{r:S.rs.den}(hown:S.own=[])(he:Ext w w')(vs:List Value)(hV:V=packR S.rs vs)(hr:S.rs.rp w' (fun _=>False) vs r):ResOk S w ok w' V r:=by refine ⟨fun _=>none,vs,hV,?_,⟨(fun id gh hg=>by cases hg),(fun id id' gh gh' b hg=>by cases hg),(fun id gh b hg=>by cases hg),BExt.ofExt he⟩⟩;rw[hown,q37];exact S.rs.acs_rc (Ty.rp_keep S.rs hr (fun _ _=>rfl) (fun _ h=>h.elim))
theorem q258{w:World}{ok:Nat->Prop}{b:Ty}{vs:List Value}{x:ByteArray×b.den}(h:ArgsOk w ok (.pair .str b) vs x):∃ us,vs = .string x.1 :: us/\x.1.size<=maxLen/\ArgsOk w ok b us x.2:=by
 cases vs with
 | nil=>exact h.elim
 | cons v us=>
  obtain ⟨⟨cs,hv,hc,hs⟩,hr⟩:=h;subst hc;exact ⟨us,by rw[hv]; rfl,hs,hr⟩
theorem q480{w:World}{ok:Nat->Prop}{k:IntKind}{b:Ty}{vs:List Value}{x:Int×b.den}(h:ArgsOk w ok (.pair (.int k) b) vs x):∃ us,vs = .int k x.1 :: us/\(Lit.int k x.1).wf=true/\ArgsOk w ok b us x.2:=by
 cases vs with
 | nil=>exact h.elim
 | cons v us=>
  obtain ⟨⟨cs,hv,hc,hs⟩,hr⟩:=h;subst hc;exact ⟨us,by rw[hv]; rfl,hs,hr⟩
theorem q333{w:World}{ok:Nat->Prop}{vs:List Value}{x:Unit}(h:ArgsOk w ok .nil vs x):vs=[]:=by
 cases vs with
 | nil=>rfl
 | cons v us=>exact h.elim
theorem q310{args:Array Value}{l:List Value}(h:args.toList=l):args=l.toArray:=by rw[<- h]
def PRE(w : World) : Prop := ∀ w', Below w.heap.size w w' → Lib.TabIs Tryz.prog w' "internal/strconv.uint64pow10" .u64 Lib.pow10Tab ∧ TabsAt [(0, q22)] w' ∧ (∃ m, w'.cell? ⟨1, 0, none⟩ = some (.int .i64 m)) ∧ (∃ ev, w'.cell? ⟨2, 0, none⟩ = some ev ∧ (ev = .nilIface ∨ ∃ te pe, ev = .iface te pe)) ∧ (∃ ev, w'.cell? ⟨3, 0, none⟩ = some ev ∧ (ev = .nilIface ∨ ∃ te pe, ev = .iface te pe))
theorem q472(w:World)(h:PRE w):TabsAt [(0,q22)] w:=(h w (Below.refl _ _)).2.1
theorem q151(w w':World)(h:PRE w)(e:Ext w w'):PRE w':=fun w'' hb=>h w'' (Below.trans e (Below.mono hb e.size))
def q135(N:Nat):FnSpec:=⟨(.pair (.int .i64) (.pair (.int .i64) .nil)),(.pair .str .nil),[],q80 N,false⟩
theorem q255:q13 Tryz.prog 117:=⟨_,Tryz.func117,by kernel_rfl,by kernel_rfl⟩
theorem q250(N:Nat):Sound Tryz.prog PRE 117 (q135 N):=by
 intro w args x r ok hpre _ hA hx;obtain ⟨us,h1,h2,hA⟩:=q480 hA;obtain ⟨us',rfl,h3,hA⟩:=q480 hA;obtain rfl:=q333 hA;obtain rfl:=q310 h1;obtain ⟨hc,hx⟩:=q9 (show (bif decide (x.2.1=10) && decide ((Lib.itoa x.1).length<=30) then some ((⟨(Lib.itoa x.1).toArray⟩:ByteArray),()) else none)=some r from hx);cases hx;simp only[bQ,ay] at hc;rw[hc.1];obtain ⟨b1,b2⟩:=wf_bd h2;refine (Tryz.strconv_FormatInt_10 x.1 b1 b2 w (hpre w (Below.refl _ _)).1).mono fun e w' ⟨he,k,os,hw⟩=>⟨_,he,ResOk.ofFlat rfl ?_ [_] rfl ⟨[_],[],rfl,⟨rfl,?_⟩,rfl⟩⟩
 .rw[hw];exact below_grow _ _ (ae _) _ _
 .have:(⟨(Lib.itoa x.1).toArray⟩:ByteArray).size=(Lib.itoa x.1).length:=by simp[ByteArray.size]
  rw[this]; unfold maxLen; omega
def q186(N:Nat):FnSpec:=⟨(.pair .str (.pair (.int .i64) .nil)),(.pair .str .nil),[],q65 N,false⟩
theorem q365:q13 Tryz.prog 118:=⟨_,Tryz.func118,by kernel_rfl,by kernel_rfl⟩
theorem q407(l:List UInt8):∀ c,(Lib.repeatL l c).length=l.length * c
 | 0=>rfl
 | c+1=>by rw[Lib.repeatL,List.length_append,q407 l c,Nat.mul_succ]; omega
theorem q359(N:Nat):Sound Tryz.prog PRE 118 (q186 N):=by
 intro w args x r ok _ _ hA hx;obtain ⟨us,h1,h2,hA⟩:=q258 hA;obtain ⟨us',rfl,h3,hA⟩:=q480 hA;obtain rfl:=q333 hA;obtain rfl:=q310 h1;obtain ⟨hc,hx⟩:=q9 (show (bif decide (0<=x.2.1) && (decide (x.2.1<=9223372036854775807) && decide (x.1.size * x.2.1.toNat<=140737488355328)) then some (((⟨(Lib.repeatL x.1.data.toList x.2.1.toNat).toArray⟩:ByteArray),()):ByteArray×Unit) else none)=some r from hx);cases hx;simp only[bQ,ay] at hc;obtain ⟨s,n,u⟩:=x;have k0:(0:Int)<=(n:Int):=hc.1;have k1:(n:Int)<=9223372036854775807:=hc.2.1;have k2:s.size * (n:Int).toNat<=140737488355328:=hc.2.2;obtain ⟨m,hm⟩:∃ m:Nat,(n:Int)=(m:Int):=⟨(n:Int).toNat,(Int.toNat_of_nonneg k0).symm⟩;rw[hm] at k1 k2;rw[Int.toNat_natCast] at k2;have hn:(n:Int).toNat=m:=by rw[hm]; rfl
 show Calls _ _ #[.string s,.int .i64 n] _ _;rw[show n=(m:Int) from hm];refine (Tryz.strings_Repeat s m w (Int.ofNat_le.1 k1) k2).mono fun e w' ⟨he,hw⟩=>⟨_,he,ResOk.ofFlat rfl hw [_] rfl ⟨[_],[],rfl,⟨?_,?_⟩,rfl⟩⟩
 .show _=[Value.string ⟨(Lib.repeatL s.data.toList (m:Int).toNat).toArray⟩];rfl
 show (⟨(Lib.repeatL s.data.toList m).toArray⟩:ByteArray).size<=_;have h9:(⟨(Lib.repeatL s.data.toList m).toArray⟩:ByteArray).size=(Lib.repeatL s.data.toList m).length:=by simp[ByteArray.size]
 have h8:s.data.toList.length=s.size:=by rw[Array.length_toList]; rfl
 rw[h9,q407,h8]; unfold maxLen; omega
def q141(N:Nat):FnSpec:=⟨(.pair .str (.pair (.int .u8) .nil)),(.pair (.int .i64) .nil),[],q59 N,false⟩
theorem q264:q13 Tryz.prog 88:=⟨_,Tryz.func88,by kernel_rfl,by kernel_rfl⟩
theorem q350(c:UInt8):∀ l:List UInt8,-1<=Lib.indexByte l c/\Lib.indexByte l c<=(l.length:Int)
 | []=>by simp[Lib.indexByte]
 | b :: l=>by
  have:=q350 c l;simp only[Lib.indexByte,List.length_cons];split
  .omega
  .split
   .omega
   .rename_i h _ ; push_cast; omega
theorem q541(l:List UInt8)(c:UInt8)(h:l.length<=maxLen):(Lit.int .i64 (Lib.indexByte l c)).wf=true:=by have:=q350 c l;unfold maxLen at h;exact wf_of (by show (-9223372036854775808:Int)<=_; omega) (by show _<=(9223372036854775807:Int); omega)
theorem q276(N:Nat):Sound Tryz.prog PRE 88 (q141 N):=by intro w args x r ok _ _ hA hx;obtain ⟨us,h1,h2,hA⟩:=q258 hA;obtain ⟨us',rfl,h3,hA⟩:=q480 hA;obtain rfl:=q333 hA;obtain rfl:=q310 h1;cases hx;exact (Tryz.strings_IndexByte x.1 x.2.1 w).mono fun e w' ⟨he,hw⟩=>⟨_,he,ResOk.ofFlat rfl (by rw[hw]; exact Ext.refl w) [_] rfl ⟨[_],[],rfl,⟨rfl,q541 _ _ (by simpa using h2)⟩,rfl⟩⟩
def q247(N:Nat):FnSpec:=⟨(.pair .str (.pair .str .nil)),(.pair .str .nil),[],q104 N,false⟩
theorem q441:q13 Tryz.prog 260:=⟨_,Tryz.func260,by kernel_rfl,by kernel_rfl⟩
theorem q694(l cs:List UInt8):(Lib.trimS l cs).length<=l.length:=by unfold Lib.trimS Lib.trimLeftS Lib.trimRightS;refine bo (List.dropWhile_sublist _).length_le ?_;rw[List.length_reverse];refine bo (List.dropWhile_sublist _).length_le ?_;rw[List.length_reverse];exact ae _
theorem q445(N:Nat):Sound Tryz.prog PRE 260 (q247 N):=by intro w args x r ok _ _ hA hx;obtain ⟨us,h1,h2,hA⟩:=q258 hA;obtain ⟨us',rfl,h3,hA⟩:=q258 hA;obtain rfl:=q333 hA;obtain rfl:=q310 h1;obtain ⟨hc,hx⟩:=q9 (show (bif (x.2.1.data.toList.all fun b=>decide (b.toNat<128)) && decide (x.2.1.size<4294967281) then some ((⟨(Lib.trimS x.1.data.toList x.2.1.data.toList).toArray⟩:ByteArray),()) else none)=some r from hx);cases hx;simp only[bQ,ay] at hc;exact (Any.strings_Trim_laid Tryz.lays160 (by kernel_rfl) x.1 x.2.1 w (by unfold maxLen at h2; omega) hc.2 (ascii_of_all hc.1)).mono fun e w' ⟨he,hw⟩=>⟨_,he,ResOk.ofFlat rfl hw [_] rfl ⟨[_],[],rfl,⟨rfl,bo (q694 _ _) h2⟩,rfl⟩⟩
theorem ResOk.ofData{S:FnSpec}{w w':World}{ok:Nat->Prop}{V:Value}{r:S.rs.den}(hown:S.own=[])(he:Ext w w')(vs:List Value)(hV:V=packR S.rs vs)(hr:S.rs.rp w' (imm (Base.of w) ok w' fun _=>none) vs r):ResOk S w ok w' V r:=by refine ⟨fun _=>none,vs,hV,?_,⟨(fun id gh hg=>by cases hg),(fun id id' gh gh' b hg=>by cases hg),(fun id gh b hg=>by cases hg),BExt.ofExt he⟩⟩;rw[hown,q37];exact S.rs.acs_rc hr
def q207(N:Nat):FnSpec:=⟨(.pair .str (.pair .str .nil)),(.pair (.slice .str) .nil),[],q89 N,false⟩
theorem q392:q13 Tryz.prog 37:=⟨_,Tryz.func37,by kernel_rfl,by kernel_rfl⟩
theorem q435(N:Nat):Sound Tryz.prog PRE 37 (q207 N):=by
 intro w args x r ok hpre _ hA hx;obtain ⟨us,h1,h2,hA⟩:=q258 hA;obtain ⟨us',rfl,h3,hA⟩:=q258 hA;obtain rfl:=q333 hA;obtain rfl:=q310 h1;obtain ⟨s,sep,u⟩:=x;obtain ⟨hc,hx⟩:=q9 (show (bif decide (sep.size=1) && decide (s.size<4294967281) then some (((splitL (sep.data.toList.headD 0) s.data.toList).map (fun l=>(⟨l.toArray⟩:ByteArray)),()):List ByteArray×Unit) else none)=some r from hx);cases hx;simp only[bQ,ay] at hc;have hsep:=q776 hc.1;obtain ⟨m,hm⟩:=(hpre w (Below.refl _ _)).2.2.1;have hb:=q739 (sep.data.toList.headD 0) s;rw[<- hsep] at hb;have hlen:(splitL (sep.data.toList.headD 0) s.data.toList).length=Lib.countB s sep+1:=by have:=congrArg List.length (show Lib.splitB sep 0 (Lib.countB s sep) s=_ from hb);rw[aJ] at this;rw[<- this];exact Lib.splitB_all sep (by omega) 0 _ s rfl
 have hle:=q315 (sep.data.toList.headD 0) s.data.toList;have hss:s.data.toList.length=s.size:=by rw[Array.length_toList]; rfl
 refine (Tryz.strings_Split s sep m w hc.2 hm (by omega)).mono fun e w' ⟨he,hw⟩=>⟨_,he,ResOk.ofData rfl (by rw[hw]; exact (Ext.refl w).alloc _) [_] rfl ⟨[_],[],rfl,⟨some ⟨w.heap.size,0,none⟩,Lib.countB s sep+1,?_,?_,?_,fun _=>⟨w.heap.size,0,rfl,⟨.inr (.inl (ae _)),?_,fun _ _ h=>by cases h⟩,fun i hi=>⟨[.string ((splitL (sep.data.toList.headD 0) s.data.toList).map (fun l=>(⟨l.toArray⟩:ByteArray)))[i]],⟨rfl,?_⟩,fun q v hq=>?_⟩⟩⟩,rfl⟩⟩
 .rw[aJ,hlen]
 .rw[aJ,hlen]; exact ae _
 .unfold maxLen; omega
 .rw[hw]; simp
 .rw[bG];have:=q128 (sep.data.toList.headD 0) s.data.toList _ (List.getElem_mem (n:=i) (by simpa using hi));have e:∀ l:List UInt8,(⟨l.toArray⟩:ByteArray).size=l.length:=fun l=>by simp[ByteArray.size]
  rw[e]; unfold maxLen at h2 |-; omega
 .match q,hq with
  | 0,hq=>
   simp only[List.getElem?_cons_zero,ah] at hq;subst hq;rw[hw,hb,q24 (heap_alloc_new w _)];simp[Ty.sz]
  | q+1,hq=>simp at hq
theorem q604{l:List UInt8}{v:Int}(h:Lib.parseIntB 64 l = .ok v) : -9223372036854775808<=v/\v<=9223372036854775807:=by
 unfold Lib.parseIntB at h;split at h
 .cases h
 .simp only at h;split at h
  .cases h
  .cases h
  .rename_i u hu;have e:(2:Nat) ^ (64 - 1)=9223372036854775808:=rfl;rw[e] at h;split at h
   .cases h
   .split at h
    .cases h
    .cases h;split <;> omega
def badInt(l:List UInt8):Int:=match Lib.parseIntB 64 l with
 | .range=>Lib.intSat 64 l
 | _=>0
theorem q543(s:ByteArray)(hs:s.size<4294967281)(w:World)(hpre:PRE w):
 Calls Tryz.prog 91 #[.string s,.int .i64 10,.int .i64 64] w fun e w'=>Ext w w'/\
  ((∃ v,Lib.parseIntB 64 s.data.toList = .ok v/\e = .returned (.tuple #[.int .i64 v,.nilIface]))\/
   ((∀ v,Lib.parseIntB 64 s.data.toList ≠ .ok v)/\∃ te pv,e = .returned (.tuple #[.int .i64 (badInt s.data.toList),.iface te pv]))):=by
 obtain ⟨_,_,_,⟨ev1,hv1,he1⟩,⟨ev2,hv2,he2⟩⟩:=hpre w (Below.refl _ _);cases hp:Lib.parseIntB 64 s.data.toList with
 | ok v=>exact (Tryz.strconv_ParseInt_10_at64_ok s (by omega) v hp w).mono fun e w' ⟨he,hw⟩=>⟨by
  rcases hw with rfl | ⟨t,rfl⟩
  .exact Ext.refl _
  .exact Lib.bytesWorld_below _ _ _,.inl ⟨v,rfl,he⟩⟩
 | range=>
  rw[show badInt s.data.toList=Lib.intSat 64 s.data.toList by simp only[badInt,hp]];exact (Tryz.strconv_ParseInt_10_at64_range s (by omega) hp ev2 w hv2 he2).mono fun e w' ⟨N,he,_,_,hb⟩=>⟨hb,.inr ⟨(fun v h=>nomatch h),_,_,he⟩⟩
 | _=>
  rw[show badInt s.data.toList=0 by simp only[badInt,hp]];exact (Any.strconv_ParseInt_10_at64_syntax Tryz.laysC174 s (by omega) hp ev1 w hv1 he1).mono fun e w' ⟨N,he,_,_,hb⟩=>⟨hb,.inr ⟨(fun v h=>nomatch h),_,_,he⟩⟩
theorem q807{f:FuncId}{own:List Bool}{F:Int×Unit->Option (ByteArray×Unit)}(h:Sound Tryz.prog PRE f ⟨.pair (.int .i64) .nil,.pair .str .nil,own,F,false⟩){v:Int}{y:ByteArray}{w:World}(hpre:PRE w)(hv : -9223372036854775808<=v/\v<=9223372036854775807)(hF:F (v,())=some (y,())):
 Calls Tryz.prog f #[.int .i64 v] w fun e w'=>e = .returned (.string y)/\Ext w w':=by
 refine (h w #[.int .i64 v] (v,()) (y,()) (fun _=>False) hpre (fun b hb=>hb.elim) ⟨⟨[.int .i64 v],rfl,rfl,wf_of (by show (-9223372036854775808:Int)<=_; exact hv.1) (by show _<=(9223372036854775807:Int); exact hv.2)⟩,trivial⟩ hF).mono fun e w' ⟨V,he,hres⟩=>?_;obtain ⟨G,vs,rfl,hr,hst⟩:=hres;refine ⟨?_,hst.ext.of⟩;have hcs:(ownAcs false own 0 [AC.str y]).1=[AC.str y]:=by
  cases own with
  | nil=>rfl
  | cons b fs=>rw[q30 _ _ _ _ _ (.inr (by intro e xs h; cases h)),q72]
 have hr':RCs w' (imm (Base.of w) (fun _=>False) w' G) G (ownAcs false own 0 [AC.str y]).1 vs:=hr;rw[hcs] at hr';obtain ⟨v',rfl,hv',_⟩:=hr'.one;rw[he,hv'];rfl
theorem q583(l:List UInt8):(Lib.replace l [46] [] 1).length<=l.length:=by
 have key:∀(k:Nat)(l:List UInt8),(Lib.replaceK [46] [] k l).length<=l.length:=by
  intro k
  induction k with
  | zero=>intro l; exact ae _
  | succ k ih=>
   intro l;unfold Lib.replaceK;split
   .exact ae _
   .have:=ih (l.drop ((Lib.index l [46]).toNat+[(46:UInt8)].length));simp only[List.length_append,aK,bK,List.length_nil,List.length_singleton] at this |-;omega
 unfold Lib.replace;split
 .exact ae _
 .exact key _ _
set_option maxRecDepth 100000 in
set_option maxHeartbeats 2000000 in
theorem q540{own:List Bool}{F:Int×Unit->Option (ByteArray×Unit)}(h:Sound Tryz.prog PRE 93 ⟨.pair (.int .i64) .nil,.pair .str .nil,own,F,false⟩):Sound Tryz.prog PRE 39 ⟨.pair .str .nil,.pair (.int .i64) (.pair .bool .nil),[],rdTime F,false⟩:=by
 intro w args x r ok hpre _ hA hx;obtain ⟨us,h1,h2,hA⟩:=q258 hA;obtain rfl:=q333 hA;obtain rfl:=q310 h1;obtain ⟨s,u⟩:=x
 obtain ⟨hc,hx⟩:=q9 (show (bif decide (s.size<4294967281) then (match Lib.parseIntB 64 (Lib.replace s.data.toList [46] [] 1) with
  | .ok t=>obind (F (t,())) fun r=>bif decide (r.1=s) then some (t,true,()) else some (0,false,())
  | _=>some ((0,false,()):Int×Bool×Unit)) else none)=some r from hx)
 have hs:s.size<4294967281:=bF hc;obtain ⟨t0,ht0⟩:∃ t0:ByteArray,t0=⟨(Lib.replace s.data.toList [46] [] 1).toArray⟩:=⟨_,rfl⟩;have hd:t0.data.toList=Lib.replace s.data.toList [46] [] 1:=by rw[ht0]
 have hlen:t0.size<4294967281:=by
  have h1:t0.size=(Lib.replace s.data.toList [46] [] 1).length:=by rw[<- hd,Array.length_toList]; rfl
  have h2:=q583 s.data.toList;have h3:s.data.toList.length=ByteArray.size s:=by rw[Array.length_toList]; rfl
  omega
 obtain ⟨m,hm⟩:=(hpre w (Below.refl _ _)).2.2.1;have hrep:=Tryz.strings_Replace s ⟨#[46]⟩ ⟨#[]⟩ 1 m w hs hm (by decide) (by show s.size+_ * 0<=_; omega);have hrep:Calls Tryz.prog 92 #[.string s,.string ⟨#[46]⟩,.string ⟨#[]⟩,.int .i64 1] w fun e w'=>e = .returned (.string t0)/\Ext w w':=hrep.mono fun e w' ⟨he,hb⟩=>⟨by rw[he,ht0],hb⟩;rw[<- hd] at hx;clear ht0 hd;have hfin:Calls Tryz.prog 39 #[.string s] w fun e w'=>∃ v b,r=(v,b,())/\e = .returned (.tuple #[.int .i64 v,.bool b])/\Ext w w' /\ -9223372036854775808<=v/\v<=9223372036854775807:=by
  go_enter Tryz.func39,Tryz.ntmps39
  go_wp2_with (first | (go_at_call 92; refine hrep.mono ?_; rintro e w1 ⟨rfl,k1⟩))
  have hp1:PRE w1:=q151 w w1 hpre k1;have hpi:=q543 t0 hlen w1 hp1
  go_at_call 91
  refine hpi.mono ?_;rintro e w2 ⟨k2,⟨v,hv,rfl⟩ | ⟨hno,te,pv,rfl⟩⟩
  .rw[hv] at hx;obtain ⟨⟨y,uy⟩,hF,hx⟩:=q17 hx;have hbd:=q604 hv;have hft:=q807 h (q151 w1 w2 hp1 k2) hbd hF;by_cases hy:y=s
   .have hbeq:(y.toList == ByteArray.toList s)=true:=(Lib.bytes_beq_iff y s).2 hy
    go_wp2_with (first | (go_at_call 93; refine hft.mono ?_; rintro e w3 ⟨rfl,k3⟩))
    go_ret2
    rw[ax hy] at hx;cases hx;exact ⟨v,true,rfl,rfl,(k1.trans k2).trans k3,hbd⟩
   .have hbeq:(y.toList == ByteArray.toList s)=false:=(Lib.bytes_beq_false_iff y s).2 hy
    go_wp2_with (first | (go_at_call 93; refine hft.mono ?_; rintro e w3 ⟨rfl,k3⟩))
    go_ret2
    rw[bd hy] at hx;cases hx;exact ⟨0,false,rfl,rfl,(k1.trans k2).trans k3,by decide,by decide⟩
  .go_wp2
   go_ret2
   have hx:some ((0,false,()):Int×Bool×Unit)=some r:=by
    revert hx;cases hp:Lib.parseIntB 64 t0.data.toList with
    | ok v=>exact absurd hp (hno v)
    | _=>exact fun hx=>hx
   cases hx;exact ⟨0,false,rfl,rfl,k1.trans k2,by decide,by decide⟩
 refine hfin.mono fun e w' ⟨v,b,hr,he,hw,b1,b2⟩=>⟨_,he,ResOk.ofFlat rfl hw [_,_] rfl ?_⟩;subst hr;exact ⟨[_],[_],rfl,⟨rfl,wf_of (by show (-9223372036854775808:Int)<=_; exact b1) (by show _<=(9223372036854775807:Int); exact b2)⟩,[_],[],rfl,rfl,rfl⟩
theorem q406:∀ l:List UInt8,l≠[]->(Lib.indexByte l 10 = -1/\linesL l=[l])\/∃ i:Nat,Lib.indexByte l 10=(i:Int)/\i<l.length/\linesL l=l.take (i+1) :: linesL (l.drop (i+1))
 | [],h=>absurd rfl h
 | c :: l,_=>by
  by_cases hc:c=10
  .subst hc;refine .inr ⟨0,by simp[Lib.indexByte],by simp,by simp[linesL]⟩
  .have hb:(c == 10)=false:=by simpa using hc
   cases l with
   | nil=>exact .inl ⟨by simp[Lib.indexByte,hc],by simp[linesL,hb]⟩
   | cons d l=>
    rcases q406 (d :: l) (by simp) with ⟨h1,h2⟩ | ⟨i,h1,h2,h3⟩
    .refine .inl ⟨?_,?_⟩
     .unfold Lib.indexByte; simp[hc,h1]
     .rw[linesL,hb,cond_false,h2]
    .refine .inr ⟨i+1,?_,by simp at h2 |-; omega,?_⟩
     .unfold Lib.indexByte; simp[hc,h1]
     .rw[linesL,hb,cond_false,h3];simp
def boxLen(w:World)(b:Nat):Nat:=match w.cell? ⟨b,0,none⟩ with
 | some (.string s)=>s.size
 | _=>0
theorem q525{s:ByteArray}(h:0<s.size):(Lib.indexByte s.data.toList 10 = -1/\q58 s=[s])\/∃ i:Nat,Lib.indexByte s.data.toList 10=(i:Int)/\i<s.size/\q58 s=s.extract 0 (i+1) :: q58 (s.extract (i+1) s.size):=by
 have hl:s.data.toList.length=s.size:=by rw[Array.length_toList]; rfl
 have e:∀ a b:Nat,(s.extract a b).data.toList=(s.data.toList.take b).drop a:=fun a b=>by rw[ByteArray.data_extract,Array.toList_extract,List.extract_eq_take_drop,List.drop_take]
 have ext:∀{x y:ByteArray},x.data.toList=y.data.toList->x=y:=fun {x y} h=>by cases x; cases y; simp at h; simp[h]
 rcases q406 s.data.toList (fun e=>by rw[e] at hl; simp at hl; omega) with ⟨h1,h2⟩ | ⟨i,h1,h2,h3⟩
 .refine .inl ⟨h1,?_⟩;unfold q58;rw[h2];simp
 .refine .inr ⟨i,h1,by omega,?_⟩;unfold q58;rw[h3,List.map_cons];congr 1
  .refine ext ?_;rw[e];simp
  .rw[e,List.take_of_length_le (by rw[hl]; exact ae _)]
set_option maxRecDepth 100000 in
set_option maxHeartbeats 2000000 in
theorem q786:q493 Tryz.prog PRE 87:=by
 intro n l sid t s J Jx W hs hJ hJx hY hPre h0 hbox;refine callsIn_of_wp Tryz.func87 rfl trivial ?_ rfl;simp only[Tryz.ntmps87,List.size_toArray,List.length_cons,List.length_nil,Nat.reduceAdd,Nat.reduceSub,Array.replicate_succ,Array.replicate_zero,List.push_toArray,List.append_toArray,List.nil_append,List.cons_append]
 gi_wp2
 gi_loopw [] (fun wr=>∃ (pre:List ByteArray) (r:ByteArray),pre++q58 r=q58 s/\r.size<=s.size/\J pre wr/\wr.heap[sid]?=some (.cells #[.string r] t (0,0))) (fun wr=>boxLen wr sid)
 case atStart=>
  exact ⟨[],s,rfl,ae _,h0,hbox⟩
 case round=>
  obtain ⟨pre,r,hp,hr,hj,hb⟩:=hrel;have hc:=Boxed.cell hb;have hfz:=Boxed.frozen hb;have hib:∀ n,CallsIn (wideAt none) n Tryz.prog 88 #[.string r,.int .u8 10] wr fun e w'=>e = .returned (.int .i64 (Lib.indexByte r.data.toList 10))/\w'=wr:=fun n=>q463 (Tryz.strings_IndexByte r 10 wr);by_cases hz:0<r.size
  .rcases q525 hz with ⟨h1,h2⟩ | ⟨i,h1,h2,h3⟩
   .simp only[h1] at hib;have hj2:=hJ pre wr (wr.setCell ⟨sid,0,none⟩ (.string ⟨#[]⟩)) hj ((Below.refl 0 wr).setCell (p:=⟨sid,0,none⟩) (Nat.zero_le _) _) (fun b _ hne=>Below.heap_setCell _ _ _ b hne);have hb2:=Boxed.set (.string ⟨#[]⟩) hb;rw[h2] at hp;obtain ⟨fn,tmps,assign,body,hy,hR⟩:=hY (n - 1) pre r [] _ hp hj2
    gi_wp2_with (first | (refine ⟨trivial,(fun h=>by cases h),?_⟩; gi_at_call 88; refine (hib _).mono ?_; rintro e w1 ⟨rfl,hw1⟩; have hw2:=hw1.symm; subst hw2))
    refine ⟨(fun h=>by cases h),hR.mono ?_⟩;rintro e W3 ⟨hs3,⟨rfl,hj3⟩ | ⟨rfl,hjx3⟩⟩
    .have hb3:Boxed W3 sid t (.string ⟨#[]⟩):=hs3.trans hb2
     gi_wp2
     go_roundw
     case rel=>exact ⟨pre++[r],⟨#[]⟩,by rw[<- hp]; simp[q58,linesL],Nat.zero_le _,hj3,hb3⟩
     case measure=>
      unfold boxLen;rw[hb3.cell,hc];exact hz
    .gi_wp2
     refine bodyPost_ret (results_none rfl _ _ _) rfl ?_;exact ⟨⟨_,rfl⟩,.inr ⟨_,hjx3⟩⟩
   .simp only[h1] at hib
    gi_wp2_with (first | (refine ⟨trivial,(fun h=>by cases h),?_⟩; gi_at_call 88; refine (hib _).mono ?_; rintro e w1 ⟨rfl,hw1⟩; have hw2:=hw1.symm; subst hw2))
    have hw1:wq ((i:Int)+1)=((i+1:Nat):Int):=by rw[wrapI (by omega) (by unfold maxLen at hs; omega)]; omega
    gi_region
    have hj2:=hJ pre wr (wr.setCell ⟨sid,0,none⟩ (.string (r.extract (i+1) r.size))).drew hj (Below.drew ((Below.refl 0 wr).setCell (p:=⟨sid,0,none⟩) (Nat.zero_le _) _)) (fun b _ hne=>Below.heap_setCell _ _ _ b hne);have hb2:Boxed (wr.setCell ⟨sid,0,none⟩ (.string (r.extract (i+1) r.size))).drew sid t (.string (r.extract (i+1) r.size)):=Boxed.set (.string (r.extract (i+1) r.size)) hb;have hsz:(r.extract (i+1) r.size).size=r.size - (i+1):=by rw[ByteArray.size_extract]; omega
    rw[h3] at hp;obtain ⟨fn,tmps,assign,body,hy,hR⟩:=hY (n - 1) pre (r.extract 0 (i+1)) (q58 (r.extract (i+1) r.size)) _ hp hj2
    gi_wp2
    refine ⟨(fun h=>by cases h),hR.mono ?_⟩;rintro e W3 ⟨hs3,⟨rfl,hj3⟩ | ⟨rfl,hjx3⟩⟩
    .have hb3:Boxed W3 sid t (.string (r.extract (i+1) r.size)):=hs3.trans hb2
     gi_wp2
     go_roundw
     case rel=>exact ⟨pre++[r.extract 0 (i+1)],r.extract (i+1) r.size,by rw[<- hp]; simp,by omega,hj3,hb3⟩
     case measure=>
      unfold boxLen;rw[hb3.cell,hc];show (r.extract (i+1) r.size).size<r.size;omega
    .gi_wp2
     refine bodyPost_ret (results_none rfl _ _ _) rfl ?_;exact ⟨⟨_,rfl⟩,.inr ⟨_,hjx3⟩⟩
  .have he:r.size=0:=by omega
   gi_wp2
   go_end0
   have hr0:q58 r=[]:=by
    have hl:r.data.toList.length=r.size:=by rw[Array.length_toList]; rfl
    have:r.data.toList=[]:=ak (by omega);unfold q58;rw[this];rfl
   rw[hr0,List.append_nil] at hp;exact ⟨⟨_,rfl⟩,.inl (by rw[<- hp]; exact hj)⟩
end Go.Proofs.YtefbaonpbemejaaGreatDoor
