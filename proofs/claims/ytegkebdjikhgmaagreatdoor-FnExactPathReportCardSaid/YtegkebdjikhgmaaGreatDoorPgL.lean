/- Contracts of library functions on plain data,out of the kit's shelf. No condition of its own. -/
import Derived.Test.YtegkebdjikhgmaaGreatDoorPgE
import Derived.Test.YtegkebdjikhgmaaGreatDoorPgF
import Derived.Test.YtegkebdjikhgmaaGreatDoorShelf
import Derived.Shelf.Strings.SlTrimAscii
import Derived.Lib.AppendIntMem
namespace Go.Proofs.YtegkebdjikhgmaaGreatDoor
set_option linter.unusedSimpArgs false
set_option linter.unusedVariables false
open Go.RowKit Go.Lib
theorem ResOk.ofFlat {S:FnSpec} {w w':World} {ok:Nat→Prop} {V:Value} {r:S.rs.den} (hown:S.own=[]) (he:Ext w w') (vs:List Value) (hV:V=packR S.rs vs) (hr:S.rs.rp w' (fun _=>False) vs r):ResOk S w ok w' V r:=by
 refine ⟨fun _=>none,vs,hV,?_,⟨(fun id gh hg=>by cases hg),(fun id id' gh gh' b hg=>by cases hg),(fun id gh b hg=>by cases hg),BExt.ofExt he⟩⟩
 rw [hown,q72]
 exact S.rs.acs_rc (Ty.rp_keep S.rs hr (fun _ _=>rfl) (fun _ h=>h.elim))
theorem q418 {w:World} {ok:Nat→Prop} {b:Ty} {vs:List Value} {x:ByteArray×b.den} (h:ArgsOk w ok (.pair .str b) vs x):∃ us,vs = .string x.1 :: us∧x.1.size≤maxLen∧ArgsOk w ok b us x.2:=by
 cases vs with
 | nil=>exact h.elim
 | cons v us=>
  obtain ⟨⟨cs,hv,hc,hs⟩,hr⟩:=h
  subst hc
  exact ⟨us,by rw [hv]; rfl,hs,hr⟩
theorem q456 {w:World} {ok:Nat→Prop} {k:IntKind} {b:Ty} {vs:List Value} {x:Int×b.den} (h:ArgsOk w ok (.pair (.int k) b) vs x):∃ us,vs = .int k x.1 :: us∧(Lit.int k x.1).wf=true∧ArgsOk w ok b us x.2:=by
 cases vs with
 | nil=>exact h.elim
 | cons v us=>
  obtain ⟨⟨cs,hv,hc,hs⟩,hr⟩:=h
  subst hc
  exact ⟨us,by rw [hv]; rfl,hs,hr⟩
theorem q435 {w:World} {ok:Nat→Prop} {vs:List Value} {x:Unit} (h:ArgsOk w ok .nil vs x):vs=[]:=by
 cases vs with
 | nil=>rfl
 | cons v us=>exact h.elim
theorem q448 {args:Array Value} {l:List Value} (h:args.toList=l):args=l.toArray:=by rw [← h]
def PRE (w : World) : Prop := ∀ w', Below w.heap.size w w' → Lib.TabIs Tryz.prog w' "internal/strconv.uint64pow10" .u64 Lib.pow10Tab ∧ TabsAt [(0, q62), (1, q59)] w'
theorem q772 (w:World) (h:PRE w):TabsAt [(0,q62),(1,q59)] w:=(h w (Below.refl _ _)).2
theorem q719 (w w':World) (h:PRE w) (e:Ext w w'):PRE w':=fun w'' hb=>h w'' (Below.trans e (Below.mono hb e.size))
def q114 (N:Nat):FnSpec:=⟨(.pair (.int .i64) (.pair (.int .i64) .nil)),(.pair .str .nil),[],q83 N,false⟩
theorem q209:q24 Tryz.prog 149:=⟨_,Tryz.func149,by kernel_rfl,by kernel_rfl⟩
theorem q230 (N:Nat):Sound Tryz.prog PRE 149 (q114 N):=by
 intro w args x r ok hpre _ hA hx
 obtain ⟨us,h1,h2,hA⟩:=q456 hA
 obtain ⟨us',rfl,h3,hA⟩:=q456 hA
 obtain rfl:=q435 hA
 obtain rfl:=q448 h1
 obtain ⟨hc,hx⟩:=q8 (show (bif decide (x.2.1=10) && decide ((Lib.itoa x.1).length≤30) then some ((⟨(Lib.itoa x.1).toArray⟩:ByteArray),()) else none)=some r from hx)
 cases hx
 simp only [Bool.and_eq_true,decide_eq_true_eq] at hc
 rw [hc.1]
 obtain ⟨b1,b2⟩:=wf_bd h2
 refine (Tryz.strconv_FormatInt_10 x.1 b1 b2 w (hpre w (Below.refl _ _)).1).mono fun e w' ⟨he,k,os,hw⟩=>⟨_,he,ResOk.ofFlat rfl ?_ [_] rfl ⟨[_],[],rfl,⟨rfl,?_⟩,rfl⟩⟩
 ·rw [hw]
  exact below_grow _ _ (Nat.le_refl _) _ _
 ·have:(⟨(Lib.itoa x.1).toArray⟩:ByteArray).size=(Lib.itoa x.1).length:=by simp [ByteArray.size]
  rw [this]; unfold maxLen; omega
def q168 (N:Nat):FnSpec:=⟨(.pair .str (.pair (.int .i64) .nil)),(.pair .str .nil),[],q63 N,false⟩
theorem q308:q24 Tryz.prog 103:=⟨_,Tryz.func103,by kernel_rfl,by kernel_rfl⟩
theorem q363 (l:List UInt8):∀ c,(Lib.repeatL l c).length=l.length * c
 | 0=>rfl
 | c+1=>by rw [Lib.repeatL,List.length_append,q363 l c,Nat.mul_succ]; omega
theorem q307 (N:Nat):Sound Tryz.prog PRE 103 (q168 N):=by
 intro w args x r ok _ _ hA hx
 obtain ⟨us,h1,h2,hA⟩:=q418 hA
 obtain ⟨us',rfl,h3,hA⟩:=q456 hA
 obtain rfl:=q435 hA
 obtain rfl:=q448 h1
 obtain ⟨hc,hx⟩:=q8 (show (bif decide (0≤x.2.1) && (decide (x.2.1≤9223372036854775807) && decide (x.1.size * x.2.1.toNat≤140737488355328)) then some (((⟨(Lib.repeatL x.1.data.toList x.2.1.toNat).toArray⟩:ByteArray),()):ByteArray×Unit) else none)=some r from hx)
 cases hx
 simp only [Bool.and_eq_true,decide_eq_true_eq] at hc
 obtain ⟨s,n,u⟩:=x
 have k0:(0:Int)≤(n:Int):=hc.1
 have k1:(n:Int)≤9223372036854775807:=hc.2.1
 have k2:s.size * (n:Int).toNat≤140737488355328:=hc.2.2
 obtain ⟨m,hm⟩:∃ m:Nat,(n:Int)=(m:Int):=⟨(n:Int).toNat,(Int.toNat_of_nonneg k0).symm⟩
 rw [hm] at k1 k2
 rw [Int.toNat_natCast] at k2
 have hn:(n:Int).toNat=m:=by rw [hm]; rfl
 show Calls _ _ #[.string s,.int .i64 n] _ _
 rw [show n=(m:Int) from hm]
 refine (Tryz.strings_Repeat s m w (Int.ofNat_le.1 k1) k2).mono fun e w' ⟨he,hw⟩=>⟨_,he,ResOk.ofFlat rfl hw [_] rfl ⟨[_],[],rfl,⟨?_,?_⟩,rfl⟩⟩
 ·show _=[Value.string ⟨(Lib.repeatL s.data.toList (m:Int).toNat).toArray⟩]
  rfl
 show (⟨(Lib.repeatL s.data.toList m).toArray⟩:ByteArray).size≤_
 have h9:(⟨(Lib.repeatL s.data.toList m).toArray⟩:ByteArray).size=(Lib.repeatL s.data.toList m).length:=by simp [ByteArray.size]
 have h8:s.data.toList.length=s.size:=by rw [Array.length_toList]; rfl
 rw [h9,q363,h8]; unfold maxLen; omega
def q113 (N:Nat):FnSpec:=⟨(.pair .str (.pair (.int .u8) .nil)),(.pair (.int .i64) .nil),[],q60 N,false⟩
theorem q214:q24 Tryz.prog 265:=⟨_,Tryz.func265,by kernel_rfl,by kernel_rfl⟩
theorem q296 (c:UInt8):∀ l:List UInt8,-1≤Lib.indexByte l c∧Lib.indexByte l c≤(l.length:Int)
 | []=>by simp [Lib.indexByte]
 | b :: l=>by
  have:=q296 c l
  simp only [Lib.indexByte,List.length_cons]
  split
  ·omega
  ·split
   ·omega
   ·rename_i h _ ; push_cast; omega
theorem q518 (l:List UInt8) (c:UInt8) (h:l.length≤maxLen):(Lit.int .i64 (Lib.indexByte l c)).wf=true:=by
 have:=q296 c l
 unfold maxLen at h
 exact wf_of (by show (-9223372036854775808:Int)≤_; omega) (by show _≤(9223372036854775807:Int); omega)
theorem q231 (N:Nat):Sound Tryz.prog PRE 265 (q113 N):=by
 intro w args x r ok _ _ hA hx
 obtain ⟨us,h1,h2,hA⟩:=q418 hA
 obtain ⟨us',rfl,h3,hA⟩:=q456 hA
 obtain rfl:=q435 hA
 obtain rfl:=q448 h1
 cases hx
 exact (Tryz.strings_IndexByte x.1 x.2.1 w).mono fun e w' ⟨he,hw⟩=>⟨_,he,ResOk.ofFlat rfl (by rw [hw]; exact Ext.refl w) [_] rfl ⟨[_],[],rfl,⟨rfl,q518 _ _ (by simpa using h2)⟩,rfl⟩⟩
def q204 (N:Nat):FnSpec:=⟨(.pair .str (.pair .str .nil)),(.pair .str .nil),[],q100 N,false⟩
theorem q375:q24 Tryz.prog 264:=⟨_,Tryz.func264,by kernel_rfl,by kernel_rfl⟩
theorem q672 (l cs:List UInt8):(Lib.trimS l cs).length≤l.length:=by
 unfold Lib.trimS Lib.trimLeftS Lib.trimRightS
 refine Nat.le_trans (List.dropWhile_sublist _).length_le ?_
 rw [List.length_reverse]
 refine Nat.le_trans (List.dropWhile_sublist _).length_le ?_
 rw [List.length_reverse]
 exact Nat.le_refl _
theorem q371 (N:Nat):Sound Tryz.prog PRE 264 (q204 N):=by
 intro w args x r ok _ _ hA hx
 obtain ⟨us,h1,h2,hA⟩:=q418 hA
 obtain ⟨us',rfl,h3,hA⟩:=q418 hA
 obtain rfl:=q435 hA
 obtain rfl:=q448 h1
 obtain ⟨hc,hx⟩:=q8 (show (bif (x.2.1.data.toList.all fun b=>decide (b.toNat<128)) && decide (x.2.1.size<4294967281) then some ((⟨(Lib.trimS x.1.data.toList x.2.1.data.toList).toArray⟩:ByteArray),()) else none)=some r from hx)
 cases hx
 simp only [Bool.and_eq_true,decide_eq_true_eq] at hc
 exact (Any.strings_Trim_laid Tryz.lays160 (by kernel_rfl) x.1 x.2.1 w (by unfold maxLen at h2; omega) hc.2 (ascii_of_all hc.1)).mono fun e w' ⟨he,hw⟩=>⟨_,he,ResOk.ofFlat rfl hw [_] rfl ⟨[_],[],rfl,⟨rfl,Nat.le_trans (q672 _ _) h2⟩,rfl⟩⟩
end Go.Proofs.YtegkebdjikhgmaaGreatDoor
