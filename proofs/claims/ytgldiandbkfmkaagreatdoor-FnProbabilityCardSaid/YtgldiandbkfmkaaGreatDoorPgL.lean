/- Contracts of library functions on plain data,out of the kit's shelf. No condition of its own. slices.Sort and slices.Compact on rows of numbers: contracts out of the kit's shelf. No condition of its own. -/
import Derived.Test.YtgldiandbkfmkaaGreatDoorPgE
import Derived.Test.YtgldiandbkfmkaaGreatDoorPgF
import Derived.Test.YtgldiandbkfmkaaGreatDoorShelf
import Derived.Shelf.Strings.SlTrimAscii
import Derived.Lib.AppendIntMem
import Derived.Test.YtgldiandbkfmkaaGreatDoorPgG
import Derived.Sort.OwnSortedInts
namespace Go.Proofs.YtgldiandbkfmkaaGreatDoor
set_option linter.unusedSimpArgs false
set_option linter.unusedVariables false
open Go.RowKit Go.Lib
theorem ResOk.ofFlat{S:FnSpec}{w w':World}{ok:Nat->Prop}{V:Value}{r:S.rs.den}(hown:S.own=[])(he:Ext w w')(vs:List Value)(hV:V=packR S.rs vs)(hr:S.rs.rp w' (fun _=>False) vs r):ResOk S w ok w' V r:=by refine ⟨fun _=>none,vs,hV,?_,⟨(fun id gh hg=>by cases hg),(fun id id' gh gh' b hg=>by cases hg),(fun id gh b hg=>by cases hg),BExt.ofExt he⟩⟩;rw[hown,q43];exact S.rs.acs_rc (Ty.rp_keep S.rs hr (fun _ _=>rfl) (fun _ h=>h.elim))
theorem q654{w:World}{ok:Nat->Prop}{b:Ty}{vs:List Value}{x:ByteArray×b.den}(h:ArgsOk w ok (.pair .str b) vs x):∃ us,vs = .string x.1 :: us/\x.1.size<=maxLen/\ArgsOk w ok b us x.2:=by
 cases vs with
 | nil=>exact h.elim
 | cons v us=>
  obtain ⟨⟨cs,hv,hc,hs⟩,hr⟩:=h;subst hc;exact ⟨us,by rw[hv]; rfl,hs,hr⟩
theorem q878{w:World}{ok:Nat->Prop}{k:IntKind}{b:Ty}{vs:List Value}{x:Int×b.den}(h:ArgsOk w ok (.pair (.int k) b) vs x):∃ us,vs = .int k x.1 :: us/\(Lit.int k x.1).wf=true/\ArgsOk w ok b us x.2:=by
 cases vs with
 | nil=>exact h.elim
 | cons v us=>
  obtain ⟨⟨cs,hv,hc,hs⟩,hr⟩:=h;subst hc;exact ⟨us,by rw[hv]; rfl,hs,hr⟩
theorem q802{w:World}{ok:Nat->Prop}{vs:List Value}{x:Unit}(h:ArgsOk w ok .nil vs x):vs=[]:=by
 cases vs with
 | nil=>rfl
 | cons v us=>exact h.elim
theorem q777{args:Array Value}{l:List Value}(h:args.toList=l):args=l.toArray:=by rw[<- h]
def PRE(_:World):Prop:=True
theorem q499(w w':World)(_:PRE w)(_:Ext w w'):PRE w':=trivial
def q137(N:Nat):FnSpec:=⟨(.pair .str (.pair (.int .u8) .nil)),(.pair (.int .i64) .nil),[],q67 N,false⟩
theorem q288:q15 Tryz.prog 265:=⟨_,Tryz.func265,by kernel_rfl,by kernel_rfl⟩
theorem q350(c:UInt8):∀ l:List UInt8,-1<=Lib.indexByte l c/\Lib.indexByte l c<=(l.length:Int)
 | []=>by simp[Lib.indexByte]
 | b :: l=>by
  have:=q350 c l;simp only[Lib.indexByte,List.length_cons];split
  .omega
  .split
   .omega
   .rename_i h _ ; push_cast; omega
theorem q601(l:List UInt8)(c:UInt8)(h:l.length<=maxLen):(Lit.int .i64 (Lib.indexByte l c)).wf=true:=by have:=q350 c l;unfold maxLen at h;exact wf_of (by show (-9223372036854775808:Int)<=_; omega) (by show _<=(9223372036854775807:Int); omega)
theorem q273(N:Nat):Sound Tryz.prog PRE 265 (q137 N):=by intro w args x r ok _ _ hA hx;obtain ⟨us,h1,h2,hA⟩:=q654 hA;obtain ⟨us',rfl,h3,hA⟩:=q878 hA;obtain rfl:=q802 hA;obtain rfl:=q777 h1;cases hx;exact (Tryz.strings_IndexByte x.1 x.2.1 w).mono fun e w' ⟨he,hw⟩=>⟨_,he,ResOk.ofFlat rfl (by rw[hw]; exact Ext.refl w) [_] rfl ⟨[_],[],rfl,⟨rfl,q601 _ _ (by simpa using h2)⟩,rfl⟩⟩
def q264(N:Nat):FnSpec:=⟨(.pair .str (.pair .str .nil)),(.pair .str .nil),[],q114 N,false⟩
theorem q456:q15 Tryz.prog 264:=⟨_,Tryz.func264,by kernel_rfl,by kernel_rfl⟩
theorem q820(l cs:List UInt8):(Lib.trimS l cs).length<=l.length:=by unfold Lib.trimS Lib.trimLeftS Lib.trimRightS;refine Nat.le_trans (List.dropWhile_sublist _).length_le ?_;rw[List.length_reverse];refine Nat.le_trans (List.dropWhile_sublist _).length_le ?_;rw[List.length_reverse];exact Nat.le_refl _
theorem q459(N:Nat):Sound Tryz.prog PRE 264 (q264 N):=by intro w args x r ok _ _ hA hx;obtain ⟨us,h1,h2,hA⟩:=q654 hA;obtain ⟨us',rfl,h3,hA⟩:=q654 hA;obtain rfl:=q802 hA;obtain rfl:=q777 h1;obtain ⟨hc,hx⟩:=q10 (show (bif (x.2.1.data.toList.all fun b=>decide (b.toNat<128)) && decide (x.2.1.size<4294967281) then some ((⟨(Lib.trimS x.1.data.toList x.2.1.data.toList).toArray⟩:ByteArray),()) else none)=some r from hx);cases hx;simp only[Bool.and_eq_true,decide_eq_true_eq] at hc;exact (Any.strings_Trim_laid Tryz.lays160 (by kernel_rfl) x.1 x.2.1 w (by unfold maxLen at h2; omega) hc.2 (ascii_of_all hc.1)).mono fun e w' ⟨he,hw⟩=>⟨_,he,ResOk.ofFlat rfl hw [_] rfl ⟨[_],[],rfl,⟨rfl,Nat.le_trans (q820 _ _) h2⟩,rfl⟩⟩
open Go.RowKit Go.Lib Go.Sort
def q134:IoSpec:=⟨.pair (.slice (.int .i64)) .nil,[true],.nil,.pair (.slice (.int .i64)) .nil,q68⟩
def q102:RSpec:=⟨.int .i64,q103,false⟩
theorem q718{w:World}{ok:Nat->Prop}{cur:Array Value}{cap:Nat}{xs:List Int}(hs:cur.size=cap * (Ty.int .i64).sz)(hl:xs.length<=cap)
 (h:∀(i:Nat)(h:i<xs.length),∃ us,(Ty.int .i64).rp w ok us (xs[i]'h)/\∀ j u,us[j]?=some u->cur[i * (Ty.int .i64).sz+j]?=some u):cur.toList.take xs.length=xs.map (Value.int .i64)/\cur.size=cap/\∀ x∈xs,(Lit.int .i64 x).wf=true:=by
 have hsz:cur.size=cap:=by rw[hs]; exact Nat.mul_one _
 have hc:∀(i:Nat)(h:i<xs.length),cur[i]?=some (.int .i64 xs[i])/\(Lit.int .i64 xs[i]).wf=true:=fun i hi=>by obtain ⟨us,⟨rfl,hw⟩,hu⟩:=h i hi;have:=hu 0 _ rfl;rw[show (Ty.int .i64).sz=1 from rfl,Nat.mul_one,Nat.add_zero] at this;exact ⟨this,hw⟩
 refine ⟨?_,hsz,fun x hx=>?_⟩
 .apply List.ext_getElem?;intro j;by_cases hj:j<xs.length
  .rw[List.getElem?_take_of_lt hj,Array.getElem?_toList,(hc j hj).1];simp[hj]
  .rw[List.getElem?_take_eq_none (by omega),List.getElem?_eq_none (by simp; omega)]
 .obtain ⟨i,hi,rfl⟩:=List.getElem_of_mem hx;exact (hc i hi).2
theorem q714{w:World}{ok:Nat->Prop}{b cap:Nat}{cur:Array Value}{t:TypeId}{ys:List Int}(hb:w.heap[b]?=some (.cells cur t (0,0)))(hsz:cur.size=cap)(hcap:cap<=maxLen)(hl:ys.length<=cap)
 (h:∀(i:Nat)(h:i<ys.length),cur[i]?=some (.int .i64 ys[i])) (hw:∀ y∈ys,(Lit.int .i64 y).wf=true):RowR w ok (some b) (.slice (some ⟨b,0,none⟩) ys.length cap) (.int .i64) ys:=by
 refine .inr ⟨b,cap,cur,t,rfl,rfl,hb,hl,hcap,by rw[hsz]; exact (Nat.mul_one _).symm,fun i hi=>⟨[.int .i64 ys[i]],⟨rfl,hw _ (List.getElem_mem hi)⟩,fun j u hu=>?_⟩⟩;rw[show (Ty.int .i64).sz=1 from rfl,Nat.mul_one];cases j with
 | zero=>simp at hu; subst hu; exact h i hi
 | succ j=>simp at hu
theorem q733{w w':World}{R:Rows}{b:Nat}(h:w.grownBy w' (some b))(hb:inRows R b):BExt ⟨w,inRows R⟩ w':=
 ⟨⟨h.os,h.tape,h.output,h.size,fun k hk=>absurd hk (Nat.not_lt_zero k)⟩,fun k hk=>h.block k (Nat.lt_of_not_le fun hh=>hk (.inl hh)) fun e=>hk (.inr (by cases e; exact hb))⟩
theorem q277:q15 Tryz.prog 60:=⟨_,Tryz.func60,by kernel_rfl,by kernel_rfl⟩
theorem q206:q15 Tryz.prog 61:=⟨_,Tryz.func61,by kernel_rfl,by kernel_rfl⟩
theorem q279:HookOk Tryz.prog 60 (.io q134):=by
 intro w args x r ys ok R hok hdis hlow hargs hx;obtain ⟨xs,u⟩:=x
 match hl:args.toList,R,hargs with
 | [v],[p],hargs=>
  obtain ⟨⟨hv,_,hrow⟩,_⟩:=hargs;have hae:args=#[v]:=by cases args; simp_all
  subst hae;obtain ⟨hsz,hx⟩:=q10 (show (bif decide (xs.length<4611686018427387904) then some ((),xs.mergeSort (fun a b=>decide (a<=b)),()) else none)=some (r,ys) from hx);have hsz:xs.length<4611686018427387904:=by simpa using hsz
  cases hx;rcases hrow with ⟨h1,h2,h3⟩ | ⟨b,cap,cur,t,h1,h2,h3,h4,h5,h6,h7⟩
  .replace h3:xs=[]:=h3
   subst h3;rw[hv,h2];refine (Tryz.slices_Sort_int_none none 0 w).mono fun e w' ⟨he,hw⟩=>⟨[],he,rfl,⟨⟨rfl,.inl ⟨h1,h2,by simp⟩⟩,trivial⟩,?_⟩;rw[hw];exact BExt.refl w _
  .obtain ⟨k1,k2,k3⟩:=q718 h6 h4 h7;rw[hv,h2];have hb:b<w.heap.size:=(Array.getElem?_eq_some_iff.1 h3).1;refine (Tryz.slices_Sort_int b 0 cap xs w (holds_of_blockI h3 k1) hb hsz).mono fun e w' ⟨he,n,os,hw⟩=>⟨[],he,rfl,⟨⟨rfl,?_⟩,trivial⟩,?_⟩
   .have hln:(xs.mergeSort fun x y=>decide (x<=y)).length=xs.length:=List.length_mergeSort _;have hlx:xs.length<=cap:=h4;have hb':=heap_sortedI (n:=n) (os:=os) (xs.mergeSort fun x y=>decide (x<=y)).toArray h3;rw[<- hw] at hb';have ht:=take_putCellsI cur (xs.mergeSort fun x y=>decide (x<=y)) (by omega);have:=q714 (ok:=fun _=>False) (cap:=cap) (ys:=xs.mergeSort fun x y=>decide (x<=y)) hb' (by simp[putCells,k2]) h5 (by omega) (fun i hi=>by have h8:=congrArg (fun l=>l[i]?) ht;simp only[List.getElem?_take_of_lt hi,Array.getElem?_toList,List.getElem?_map,List.getElem?_eq_getElem hi,Option.map_some] at h8;exact h8) (fun y hy=>k3 y (List.mem_mergeSort.1 hy));rw[hln] at this;show RowR w' (fun _=>False) p.1 p.2 (.int .i64) (xs.mergeSort fun x y=>decide (x<=y));rw[h1,h2];exact this
   .refine q733 (b:=b) ?_ ⟨0,p,rfl,h1⟩;rw[hw];exact grownBy_sortedI _
 | [],_,h=>cases R <;> exact h.elim
 | [_],[],h=>exact h.elim
 | [_],_ :: _ :: _,h=>exact h.2.elim
 | _ :: _ :: _,[],h=>exact h.elim
 | _ :: _ :: _,_ :: _,h=>exact h.2.elim
theorem q595{w:World}{blk:Option Nat}{hdr:Value}{xs:List Int}(hrow:RowR w (fun _=>False) blk hdr (.int .i64) xs):
 Calls Tryz.prog 61 #[hdr] w (fun e w'=>∃ hdr',e = .returned hdr'/\w.grownBy w' blk/\RowR w' (fun _=>False) blk hdr' (.int .i64) (Lib.compact xs)):=by
 rcases hrow with ⟨h1,h2,h3⟩ | ⟨b,cap,cur,t,h1,h2,h3,h4,h5,h6,h7⟩
 .replace h3:xs=([]:List Int):=h3
  subst h3;rw[h2];refine (Tryz.slices_Compact_int_empty none 0 w).mono fun e w' ⟨he,hw⟩=>⟨_,he,?_,.inl ⟨h1,rfl,rfl⟩⟩;rw[hw];exact ⟨rfl,rfl,rfl,Nat.le_refl _,fun _ _ _=>rfl⟩
 .obtain ⟨k1,k2,k3⟩:=q718 h6 h4 h7;have hlx:xs.length<=cap:=h4;rw[h2];refine (Tryz.slices_Compact_int b 0 cap xs w (holds_of_blockI h3 k1) (by show xs.length<=_; unfold maxLen at h5; omega) hlx).mono fun e w' ⟨he,n,hw⟩=>⟨_,he,?_,?_⟩
  .rw[h1,hw];have:=grownBy_sortedI (w:=w) (g:=b) (n:=n) (os:=#[]) (Lib.compact xs++List.replicate (xs.length - (Lib.compact xs).length) 0).toArray
   rwa [grow_empty] at this
  .have hcl:(Lib.compact xs).length<=xs.length:=by unfold Lib.compact compactUpTo;rw[List.length_map];exact Nat.le_trans (List.length_filter_le _ _) (by simp)
   have hb':=heap_sortedI (n:=n) (os:=#[]) (Lib.compact xs++List.replicate (xs.length - (Lib.compact xs).length) 0).toArray h3;rw[grow_empty,<- hw] at hb';have ht:=take_putCellsI cur (Lib.compact xs++List.replicate (xs.length - (Lib.compact xs).length) 0) (by simp; omega);have:=q714 (ok:=fun _=>False) (cap:=cap) (ys:=Lib.compact xs) hb' (by simp[putCells,k2]) h5 (by omega) (fun i hi=>by have h8:=congrArg (fun l=>l[i]?) ht;simp only[List.getElem?_take_of_lt (show i<(Lib.compact xs++List.replicate (xs.length - (Lib.compact xs).length) 0).length by simp; omega),Array.getElem?_toList,List.getElem?_map] at h8;rw[h8,List.getElem?_append_left hi,List.getElem?_eq_getElem hi]; rfl) (fun y hy=>by unfold Lib.compact compactUpTo at hy;obtain ⟨j,hj,rfl⟩:=List.mem_map.1 hy;have hj':j<xs.length:=List.mem_range.1 (List.mem_filter.1 hj).1;rw[getElem!_pos _ j (by simpa using hj')];exact k3 _ (by simp));rw[h1];exact this
theorem q205:HookOk Tryz.prog 61 (.row q102):=by intro w blk hdr xs ys hfl hrow hlow hx;cases hx;exact q595 hrow
end Go.Proofs.YtgldiandbkfmkaaGreatDoor
