/- Texts parted at a byte,and the library's words for that. No program in sight. Contracts of library functions on plain data,out of the kit's shelf. No condition of its own. -/
import Derived.Test.YtcmhpcoiomdekaaGreatDoorPgF
import Derived.Lib.Split
import Derived.Lib.CountLaws
import Derived.Test.YtcmhpcoiomdekaaGreatDoorPgE
import Derived.Test.YtcmhpcoiomdekaaGreatDoorShelf
import Derived.Shelf.Strings.SlTrimAscii
import Derived.Lib.AppendIntMem
namespace Go.Proofs.YtcmhpcoiomdekaaGreatDoor
set_option linter.unusedSimpArgs false
set_option linter.unusedVariables false
theorem q330(c:UInt8):∀ l,splitL c l≠[]
 | []=>by simp[splitL]
 | b :: l=>by
  unfold splitL;split
  .simp
  .split <;> simp
theorem q447(c:UInt8)(l:List UInt8):splitL c (c :: l)=[] :: splitL c l:=by simp[splitL]
theorem q160{c b:UInt8}(h:b≠c)(l:List UInt8):splitL c (b :: l)=(b :: (splitL c l).headD []) :: (splitL c l).tail:=by
 conv=>lhs; unfold splitL
 rw[aa h];cases hs:splitL c l with
 | nil=>exact absurd hs (q330 c l)
 | cons w ws=>rfl
theorem q59{c:UInt8}:∀(w rest:List UInt8),c∉w->splitL c (w++c :: rest)=w :: splitL c rest
 | [],rest,_=>q447 c rest
 | b :: w,rest,h=>by have hb:b≠c:=fun e=>h (by rw[e]; exact bh);have ih:=q59 w rest fun hm=>h (bb _ hm);rw[List.cons_append,q160 hb,ih]; rfl
theorem q253{c:UInt8}:∀(w:List UInt8),c∉w->splitL c w=[w]
 | [],_=>rfl
 | b :: w,h=>by have hb:b≠c:=fun e=>h (by rw[e]; exact bh);rw[q160 hb,q253 w fun hm=>h (bb _ hm)]; rfl
theorem q345(c:UInt8):∀ l,(splitL c l).length<=l.length+1
 | []=>by simp[splitL]
 | b :: l=>by
  have ih:=q345 c l;by_cases h:b=c
  .rw[h,q447]; simp; omega
  .rw[q160 h];have:0<(splitL c l).length:=List.length_pos_iff.2 (q330 c l);simp; omega
theorem q136(c:UInt8):∀ l,∀ w∈splitL c l,w.length<=l.length
 | [],w,h=>by simp[splitL] at h; simp[h]
 | b :: l,w,h=>by
  by_cases hb:b=c
  .rw[hb,q447] at h;rcases ax.1 h with rfl | h
   .simp
   .have:=q136 c l w h; simp; omega
  .rw[q160 hb] at h;rcases ax.1 h with rfl | h
   .cases hs:splitL c l with
    | nil=>exact absurd hs (q330 c l)
    | cons v vs=>
     have:=q136 c l v (by rw[hs]; exact bh);simp; omega
   .have:=q136 c l w (List.mem_of_mem_tail h); simp; omega
theorem q226{c:UInt8}:∀(w rest:List UInt8),c∉w->cutL c (w++c :: rest)=(w,rest,true)
 | [],rest,_=>by simp[cutL]
 | b :: w,rest,h=>by have hb:b≠c:=fun e=>h (by rw[e]; exact bh);have ih:=q226 w rest fun hm=>h (bb _ hm);rw[List.cons_append];unfold cutL;rw[aa hb,ih]
theorem q741(c:UInt8):∀ l,(cutL c l).1.length<=l.length/\(cutL c l).2.1.length<=l.length
 | []=>by simp[cutL]
 | b :: l=>by
  have ih:=q741 c l;unfold cutL;split
  .simp
  .simp; omega
theorem q327(c:UInt8):∀ l:List UInt8,(Lib.index l [c] = -1/\c∉l)\/∃ i:Nat,Lib.index l [c]=(i:Int)/\i<l.length/\l=l.take i++c :: l.drop (i+1)/\c∉l.take i
 | [] => .inl ⟨rfl,by simp⟩
 | b :: l=>by
  unfold Lib.index;by_cases h:b=c
  .subst h;refine .inr ⟨0,?_,by simp,by simp,by simp⟩;simp[List.isPrefixOf]
  .have hp:([c].isPrefixOf (b :: l))=false:=by simp only[List.isPrefixOf,Bool.and_eq_false_iff,beq_eq_false_iff_ne];exact .inl fun e=>h e.symm
   rw[hp];rcases q327 c l with ⟨h1,h2⟩ | ⟨i,h1,h2,h3,h4⟩
   .refine .inl ⟨?_,?_⟩
    .rw[h1]; rfl
    .rw[ax,not_or]; exact ⟨fun e=>h e.symm,h2⟩
   .refine .inr ⟨i+1,?_,by simp; omega,?_,?_⟩
    .rw[h1];have:((i:Int) == -1)=false:=by rw[beq_eq_false_iff_ne]; omega
     simp[this]
    .rw[List.take_succ_cons,List.drop_succ_cons,List.cons_append,<- h3]
    .rw[List.take_succ_cons,ax,not_or]; exact ⟨fun e=>h e.symm,h4⟩
theorem q383(c:UInt8):∀(fuel:Nat)(l:List UInt8),l.length<fuel->Lib.countFrom [c] fuel l=l.count c
 | 0,l,h=>absurd h (aL _)
 | fuel+1,l,h=>by
  unfold Lib.countFrom;rcases q327 c l with ⟨h1,h2⟩ | ⟨i,h1,h2,h3,h4⟩
  .rw[h1,ag (by decide),List.count_eq_zero_of_not_mem h2]
  .have:((i:Int) == -1)=false:=by rw[beq_eq_false_iff_ne]; omega
   rw[h1,this,aa (by simp),bV,List.length_singleton,q383 c fuel _ (by simp; omega)]
   conv=>rhs; rw[h3,List.count_append,List.count_cons_self,List.count_eq_zero_of_not_mem h4]
   omega
theorem q593(c:UInt8):∀(k:Nat)(l:List UInt8),l.count c<=k->Lib.splitK [c] 0 k l=splitL c l
 | 0,l,h=>by unfold Lib.splitK;rw[q253 _ (List.count_eq_zero.1 (by omega))]
 | k+1,l,h=>by
  unfold Lib.splitK;rcases q327 c l with ⟨h1,h2⟩ | ⟨i,h1,h2,h3,h4⟩
  .rw[h1,ag (by decide),q253 _ h2]
  .have:((i:Int) == -1)=false:=by rw[beq_eq_false_iff_ne]; omega
   have hc:l.count c=1+(l.drop (i+1)).count c:=by
    conv=>lhs; rw[h3,List.count_append,List.count_cons_self,List.count_eq_zero_of_not_mem h4]
    omega
   rw[h1,this,aa (by simp),bV,List.length_singleton,Nat.add_zero,q593 c k _ (by omega)]
   conv=>rhs; rw[h3,q59 _ _ h4]
theorem q792(c:UInt8)(s:ByteArray):Lib.splitB ⟨#[c]⟩ 0 (Lib.countB s ⟨#[c]⟩) s=(splitL c s.data.toList).map fun l=>(⟨l.toArray⟩:ByteArray):=by
 have h1:=Lib.splitB_data ⟨#[c]⟩ 0 (Lib.countB s ⟨#[c]⟩) s;have h2:Lib.countB s ⟨#[c]⟩=s.data.toList.count c:=q383 c _ _ (Nat.lt_succ_self _);rw[show ((⟨#[c]⟩:ByteArray).data.toList)=[c] from rfl,q593 c _ _ (by omega)] at h1;rw[<- h1,List.map_map]
 conv=>lhs; rw[<- List.map_id (Lib.splitB ⟨#[c]⟩ 0 (Lib.countB s ⟨#[c]⟩) s)]
 refine bQ fun x _=>?_;cases x;simp
theorem cut_eq(c:UInt8):∀ l:List UInt8,Lib.cut l [c]=cutL c l:=by
 intro l;unfold Lib.cut;rcases q327 c l with ⟨h1,h2⟩ | ⟨i,h1,h2,h3,h4⟩
 .rw[h1,aa (by omega)];have key:∀ l:List UInt8,c∉l->cutL c l=(l,[],false):=by
   intro l
   induction l with
   | nil=>intro _; rfl
   | cons b l ih=>
    intro h;rw[ax,not_or] at h;unfold cutL;rw[aa fun e=>h.1 e.symm,ih h.2]
  rw[key l h2]
 .rw[h1,ag (by omega),bV,List.length_singleton]
  conv=>rhs; rw[h3,q226 _ _ h4]
theorem q748{s:ByteArray}(h:s.size=1):s=⟨#[s.data.toList.headD 0]⟩:=by
 obtain ⟨⟨l⟩⟩:=s;have h:l.length=1:=h
 match l,h with
 | [b],_=>rfl
open Go.RowKit Go.Lib
theorem ResOk.ofFlat{S:FnSpec}{w w':World}{ok:Nat->Prop}{V:Value}{r:S.rs.den}(hown:S.own=[])(he:Ext w w')(vs:List Value)(hV:V=packR S.rs vs)(hr:S.rs.rp w' (fun _=>False) vs r):ResOk S w ok w' V r:=by refine ⟨fun _=>none,vs,hV,?_,⟨(fun id gh hg=>by cases hg),(fun id id' gh gh' b hg=>by cases hg),(fun id gh b hg=>by cases hg),BExt.ofExt he⟩⟩;rw[hown,q39];exact S.rs.acs_rc (Ty.rp_keep S.rs hr (fun _ _=>rfl) (fun _ h=>h.elim))
theorem q228{w:World}{ok:Nat->Prop}{b:Ty}{vs:List Value}{x:ByteArray×b.den}(h:ArgsOk w ok (.pair .str b) vs x):∃ us,vs = .string x.1 :: us/\x.1.size<=maxLen/\ArgsOk w ok b us x.2:=by
 cases vs with
 | nil=>exact h.elim
 | cons v us=>
  obtain ⟨⟨cs,hv,hc,hs⟩,hr⟩:=h;subst hc;exact ⟨us,by rw[hv]; rfl,hs,hr⟩
theorem q534{w:World}{ok:Nat->Prop}{k:IntKind}{b:Ty}{vs:List Value}{x:Int×b.den}(h:ArgsOk w ok (.pair (.int k) b) vs x):∃ us,vs = .int k x.1 :: us/\(Lit.int k x.1).wf=true/\ArgsOk w ok b us x.2:=by
 cases vs with
 | nil=>exact h.elim
 | cons v us=>
  obtain ⟨⟨cs,hv,hc,hs⟩,hr⟩:=h;subst hc;exact ⟨us,by rw[hv]; rfl,hs,hr⟩
theorem q348{w:World}{ok:Nat->Prop}{vs:List Value}{x:Unit}(h:ArgsOk w ok .nil vs x):vs=[]:=by
 cases vs with
 | nil=>rfl
 | cons v us=>exact h.elim
theorem q359{args:Array Value}{l:List Value}(h:args.toList=l):args=l.toArray:=by rw[<- h]
def PRE(w : World) : Prop := ∀ w', Below w.heap.size w w' → Lib.TabIs Tryz.prog w' "internal/strconv.uint64pow10" .u64 Lib.pow10Tab ∧ TabsAt [(0, q40), (1, q57)] w' ∧ ∃ m, w'.cell? ⟨2, 0, none⟩ = some (.int .i64 m)
theorem q705(w:World)(h:PRE w):TabsAt [(0,q40),(1,q57)] w:=(h w (Below.refl _ _)).2.1
theorem q342(w w':World)(h:PRE w)(e:Ext w w'):PRE w':=fun w'' hb=>h w'' (Below.trans e (Below.mono hb e.size))
def q146(N:Nat):FnSpec:=⟨(.pair (.int .i64) (.pair (.int .i64) .nil)),(.pair .str .nil),[],q90 N,false⟩
theorem q289:q17 Tryz.prog 276:=⟨_,Tryz.func276,by kernel_rfl,by kernel_rfl⟩
theorem q292(N:Nat):Sound Tryz.prog PRE 276 (q146 N):=by
 intro w args x r ok hpre _ hA hx;obtain ⟨us,h1,h2,hA⟩:=q534 hA;obtain ⟨us',rfl,h3,hA⟩:=q534 hA;obtain rfl:=q348 hA;obtain rfl:=q359 h1;obtain ⟨hc,hx⟩:=q9 (show (bif decide (x.2.1=10) && decide ((Lib.itoa x.1).length<=30) then some ((⟨(Lib.itoa x.1).toArray⟩:ByteArray),()) else none)=some r from hx);cases hx;simp only[bP,ap] at hc;rw[hc.1];obtain ⟨b1,b2⟩:=wf_bd h2;refine (Tryz.strconv_FormatInt_10 x.1 b1 b2 w (hpre w (Below.refl _ _)).1).mono fun e w' ⟨he,k,os,hw⟩=>⟨_,he,ResOk.ofFlat rfl ?_ [_] rfl ⟨[_],[],rfl,⟨rfl,?_⟩,rfl⟩⟩
 .rw[hw];exact below_grow _ _ (ab _) _ _
 .have:(⟨(Lib.itoa x.1).toArray⟩:ByteArray).size=(Lib.itoa x.1).length:=by simp[ByteArray.size]
  rw[this]; unfold maxLen; omega
def q207(N:Nat):FnSpec:=⟨(.pair .str (.pair (.int .i64) .nil)),(.pair .str .nil),[],q70 N,false⟩
theorem q400:q17 Tryz.prog 225:=⟨_,Tryz.func225,by kernel_rfl,by kernel_rfl⟩
theorem q458(l:List UInt8):∀ c,(Lib.repeatL l c).length=l.length * c
 | 0=>rfl
 | c+1=>by rw[Lib.repeatL,List.length_append,q458 l c,Nat.mul_succ]; omega
theorem q399(N:Nat):Sound Tryz.prog PRE 225 (q207 N):=by
 intro w args x r ok _ _ hA hx;obtain ⟨us,h1,h2,hA⟩:=q228 hA;obtain ⟨us',rfl,h3,hA⟩:=q534 hA;obtain rfl:=q348 hA;obtain rfl:=q359 h1;obtain ⟨hc,hx⟩:=q9 (show (bif decide (0<=x.2.1) && (decide (x.2.1<=9223372036854775807) && decide (x.1.size * x.2.1.toNat<=140737488355328)) then some (((⟨(Lib.repeatL x.1.data.toList x.2.1.toNat).toArray⟩:ByteArray),()):ByteArray×Unit) else none)=some r from hx);cases hx;simp only[bP,ap] at hc;obtain ⟨s,n,u⟩:=x;have k0:(0:Int)<=(n:Int):=hc.1;have k1:(n:Int)<=9223372036854775807:=hc.2.1;have k2:s.size * (n:Int).toNat<=140737488355328:=hc.2.2;obtain ⟨m,hm⟩:∃ m:Nat,(n:Int)=(m:Int):=⟨(n:Int).toNat,(Int.toNat_of_nonneg k0).symm⟩;rw[hm] at k1 k2;rw[bV] at k2;have hn:(n:Int).toNat=m:=by rw[hm]; rfl
 show Calls _ _ #[.string s,.int .i64 n] _ _;rw[show n=(m:Int) from hm];refine (Tryz.strings_Repeat s m w (Int.ofNat_le.1 k1) k2).mono fun e w' ⟨he,hw⟩=>⟨_,he,ResOk.ofFlat rfl hw [_] rfl ⟨[_],[],rfl,⟨?_,?_⟩,rfl⟩⟩
 .show _=[Value.string ⟨(Lib.repeatL s.data.toList (m:Int).toNat).toArray⟩];rfl
 show (⟨(Lib.repeatL s.data.toList m).toArray⟩:ByteArray).size<=_;have h9:(⟨(Lib.repeatL s.data.toList m).toArray⟩:ByteArray).size=(Lib.repeatL s.data.toList m).length:=by simp[ByteArray.size]
 have h8:s.data.toList.length=s.size:=by rw[Array.length_toList]; rfl
 rw[h9,q458,h8]; unfold maxLen; omega
def q155(N:Nat):FnSpec:=⟨(.pair .str (.pair (.int .u8) .nil)),(.pair (.int .i64) .nil),[],q69 N,false⟩
theorem q284:q17 Tryz.prog 126:=⟨_,Tryz.func126,by kernel_rfl,by kernel_rfl⟩
theorem q393(c:UInt8):∀ l:List UInt8,-1<=Lib.indexByte l c/\Lib.indexByte l c<=(l.length:Int)
 | []=>by simp[Lib.indexByte]
 | b :: l=>by
  have:=q393 c l;simp only[Lib.indexByte,List.length_cons];split
  .omega
  .split
   .omega
   .rename_i h _ ; push_cast; omega
theorem q642(l:List UInt8)(c:UInt8)(h:l.length<=maxLen):(Lit.int .i64 (Lib.indexByte l c)).wf=true:=by have:=q393 c l;unfold maxLen at h;exact wf_of (by show (-9223372036854775808:Int)<=_; omega) (by show _<=(9223372036854775807:Int); omega)
theorem q274(N:Nat):Sound Tryz.prog PRE 126 (q155 N):=by intro w args x r ok _ _ hA hx;obtain ⟨us,h1,h2,hA⟩:=q228 hA;obtain ⟨us',rfl,h3,hA⟩:=q534 hA;obtain rfl:=q348 hA;obtain rfl:=q359 h1;cases hx;exact (Tryz.strings_IndexByte x.1 x.2.1 w).mono fun e w' ⟨he,hw⟩=>⟨_,he,ResOk.ofFlat rfl (by rw[hw]; exact Ext.refl w) [_] rfl ⟨[_],[],rfl,⟨rfl,q642 _ _ (by simpa using h2)⟩,rfl⟩⟩
def q261(N:Nat):FnSpec:=⟨(.pair .str (.pair .str .nil)),(.pair .str .nil),[],q117 N,false⟩
theorem q477:q17 Tryz.prog 125:=⟨_,Tryz.func125,by kernel_rfl,by kernel_rfl⟩
theorem q809(l cs:List UInt8):(Lib.trimS l cs).length<=l.length:=by unfold Lib.trimS Lib.trimLeftS Lib.trimRightS;refine bD (List.dropWhile_sublist _).length_le ?_;rw[List.length_reverse];refine bD (List.dropWhile_sublist _).length_le ?_;rw[List.length_reverse];exact ab _
theorem q479(N:Nat):Sound Tryz.prog PRE 125 (q261 N):=by intro w args x r ok _ _ hA hx;obtain ⟨us,h1,h2,hA⟩:=q228 hA;obtain ⟨us',rfl,h3,hA⟩:=q228 hA;obtain rfl:=q348 hA;obtain rfl:=q359 h1;obtain ⟨hc,hx⟩:=q9 (show (bif (x.2.1.data.toList.all fun b=>decide (b.toNat<128)) && decide (x.2.1.size<4294967281) then some ((⟨(Lib.trimS x.1.data.toList x.2.1.data.toList).toArray⟩:ByteArray),()) else none)=some r from hx);cases hx;simp only[bP,ap] at hc;exact (Any.strings_Trim_laid Tryz.lays160 (by kernel_rfl) x.1 x.2.1 w (by unfold maxLen at h2; omega) hc.2 (ascii_of_all hc.1)).mono fun e w' ⟨he,hw⟩=>⟨_,he,ResOk.ofFlat rfl hw [_] rfl ⟨[_],[],rfl,⟨rfl,bD (q809 _ _) h2⟩,rfl⟩⟩
theorem ResOk.ofData{S:FnSpec}{w w':World}{ok:Nat->Prop}{V:Value}{r:S.rs.den}(hown:S.own=[])(he:Ext w w')(vs:List Value)(hV:V=packR S.rs vs)(hr:S.rs.rp w' (imm (Base.of w) ok w' fun _=>none) vs r):ResOk S w ok w' V r:=by refine ⟨fun _=>none,vs,hV,?_,⟨(fun id gh hg=>by cases hg),(fun id id' gh gh' b hg=>by cases hg),(fun id gh b hg=>by cases hg),BExt.ofExt he⟩⟩;rw[hown,q39];exact S.rs.acs_rc hr
def q215(N:Nat):FnSpec:=⟨(.pair .str (.pair .str .nil)),(.pair (.slice .str) .nil),[],q77 N,false⟩
theorem q454:q17 Tryz.prog 90:=⟨_,Tryz.func90,by kernel_rfl,by kernel_rfl⟩
theorem q456(N:Nat):Sound Tryz.prog PRE 90 (q215 N):=by
 intro w args x r ok hpre _ hA hx;obtain ⟨us,h1,h2,hA⟩:=q228 hA;obtain ⟨us',rfl,h3,hA⟩:=q228 hA;obtain rfl:=q348 hA;obtain rfl:=q359 h1;obtain ⟨s,sep,u⟩:=x;obtain ⟨hc,hx⟩:=q9 (show (bif decide (sep.size=1) && decide (s.size<4294967281) then some (((splitL (sep.data.toList.headD 0) s.data.toList).map (fun l=>(⟨l.toArray⟩:ByteArray)),()):List ByteArray×Unit) else none)=some r from hx);cases hx;simp only[bP,ap] at hc;have hsep:=q748 hc.1;obtain ⟨m,hm⟩:=(hpre w (Below.refl _ _)).2.2;have hb:=q792 (sep.data.toList.headD 0) s;rw[<- hsep] at hb;have hlen:(splitL (sep.data.toList.headD 0) s.data.toList).length=Lib.countB s sep+1:=by have:=congrArg List.length (show Lib.splitB sep 0 (Lib.countB s sep) s=_ from hb);rw[ay] at this;rw[<- this];exact Lib.splitB_all sep (by omega) 0 _ s rfl
 have hle:=q345 (sep.data.toList.headD 0) s.data.toList;have hss:s.data.toList.length=s.size:=by rw[Array.length_toList]; rfl
 refine (Tryz.strings_Split s sep m w hc.2 hm (by omega)).mono fun e w' ⟨he,hw⟩=>⟨_,he,ResOk.ofData rfl (by rw[hw]; exact (Ext.refl w).alloc _) [_] rfl ⟨[_],[],rfl,⟨some ⟨w.heap.size,0,none⟩,Lib.countB s sep+1,?_,?_,?_,fun _=>⟨w.heap.size,0,rfl,⟨.inr (.inl (ab _)),?_,fun _ _ h=>by cases h⟩,fun i hi=>⟨[.string ((splitL (sep.data.toList.headD 0) s.data.toList).map (fun l=>(⟨l.toArray⟩:ByteArray)))[i]],⟨rfl,?_⟩,fun q v hq=>?_⟩⟩⟩,rfl⟩⟩
 .rw[ay,hlen]
 .rw[ay,hlen]; exact ab _
 .unfold maxLen; omega
 .rw[hw]; simp
 .rw[bf];have:=q136 (sep.data.toList.headD 0) s.data.toList _ (List.getElem_mem (n:=i) (by simpa using hi));have e:∀ l:List UInt8,(⟨l.toArray⟩:ByteArray).size=l.length:=fun l=>by simp[ByteArray.size]
  rw[e]; unfold maxLen at h2 |-; omega
 .match q,hq with
  | 0,hq=>
   simp only[List.getElem?_cons_zero,ak] at hq;subst hq;rw[hw,hb,q26 (heap_alloc_new w _)];simp[Ty.sz]
  | q+1,hq=>simp at hq
def q304(N:Nat):FnSpec:=⟨(.pair .str (.pair .str .nil)),(.pair .str (.pair .str (.pair .bool .nil))),[],q126 N,false⟩
theorem q529:q17 Tryz.prog 230:=⟨_,Tryz.func230,by kernel_rfl,by kernel_rfl⟩
theorem q526(N:Nat):Sound Tryz.prog PRE 230 (q304 N):=by
 intro w args x r ok hpre _ hA hx;obtain ⟨us,h1,h2,hA⟩:=q228 hA;obtain ⟨us',rfl,h3,hA⟩:=q228 hA;obtain rfl:=q348 hA;obtain rfl:=q359 h1;obtain ⟨s,sep,u⟩:=x;obtain ⟨hc,hx⟩:=q9 (show (bif decide (sep.size=1) && decide (s.size<4294967281) then some (((⟨(cutL (sep.data.toList.headD 0) s.data.toList).1.toArray⟩,⟨(cutL (sep.data.toList.headD 0) s.data.toList).2.1.toArray⟩,(cutL (sep.data.toList.headD 0) s.data.toList).2.2,())):ByteArray×ByteArray×Bool×Unit) else none)=some r from hx);cases hx;simp only[bP,ap] at hc;have hsep:=q748 hc.1;obtain ⟨m,hm⟩:=(hpre w (Below.refl _ _)).2.2;have hb:=cut_eq (sep.data.toList.headD 0) s.data.toList;have hsl:sep.data.toList=[sep.data.toList.headD 0]:=by conv=>lhs; rw[hsep]
 rw[<- hsl] at hb;have hl:=q741 (sep.data.toList.headD 0) s.data.toList;have hss:s.data.toList.length=s.size:=by rw[Array.length_toList]; rfl
 have e:∀ l:List UInt8,(⟨l.toArray⟩:ByteArray).size=l.length:=fun l=>by simp[ByteArray.size]
 refine (Tryz.strings_Cut s sep m w hc.2 hm).mono fun e' w' ⟨he,k,hw⟩=>⟨_,he,ResOk.ofFlat rfl (by rw[hw]; exact ⟨rfl,rfl,rfl,ab _,fun _ _=>rfl⟩) [_,_,_] rfl ?_⟩;rw[hb];exact ⟨[_],[_,_],rfl,⟨rfl,by rw[e]; unfold maxLen at h2 |-; omega⟩,[_],[_],rfl,⟨rfl,by rw[e]; unfold maxLen at h2 |-; omega⟩,[_],[],rfl,rfl,rfl⟩
end Go.Proofs.YtcmhpcoiomdekaaGreatDoor
