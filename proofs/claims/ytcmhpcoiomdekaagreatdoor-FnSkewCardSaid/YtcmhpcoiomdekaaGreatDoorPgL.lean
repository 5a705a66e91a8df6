/- Contracts of library functions on plain data,out of the kit's shelf. No condition of its own. -/
import Derived.Test.YtcmhpcoiomdekaaGreatDoorPgE
import Derived.Test.YtcmhpcoiomdekaaGreatDoorPgF
import Derived.Test.YtcmhpcoiomdekaaGreatDoorShelf
import Derived.Shelf.Strings.SlTrimAscii
import Derived.Lib.AppendIntMem
namespace Go.Proofs.YtcmhpcoiomdekaaGreatDoor
set_option linter.unusedSimpArgs false
set_option linter.unusedVariables false
open Go.RowKit Go.Lib
theorem ResOk.ofFlat{S:FnSpec}{w w':World}{ok:Nat->Prop}{V:Value}{r:S.rs.den}(hown:S.own=[])(he:Ext w w')(vs:List Value)(hV:V=packR S.rs vs)(hr:S.rs.rp w' (fun _=>False) vs r):ResOk S w ok w' V r:=by refine ⟨fun _=>none,vs,hV,?_,⟨(fun id gh hg=>by cases hg),(fun id id' gh gh' b hg=>by cases hg),(fun id gh b hg=>by cases hg),BExt.ofExt he⟩⟩;rw[hown,q42];exact S.rs.acs_rc (Ty.rp_keep S.rs hr (fun _ _=>rfl) (fun _ h=>h.elim))
theorem q621{w:World}{ok:Nat->Prop}{b:Ty}{vs:List Value}{x:ByteArray×b.den}(h:ArgsOk w ok (.pair .str b) vs x):∃ us,vs = .string x.1 :: us/\x.1.size<=maxLen/\ArgsOk w ok b us x.2:=by
 cases vs with
 | nil=>exact h.elim
 | cons v us=>
  obtain ⟨⟨cs,hv,hc,hs⟩,hr⟩:=h;subst hc;exact ⟨us,by rw[hv]; rfl,hs,hr⟩
theorem q835{w:World}{ok:Nat->Prop}{k:IntKind}{b:Ty}{vs:List Value}{x:Int×b.den}(h:ArgsOk w ok (.pair (.int k) b) vs x):∃ us,vs = .int k x.1 :: us/\(Lit.int k x.1).wf=true/\ArgsOk w ok b us x.2:=by
 cases vs with
 | nil=>exact h.elim
 | cons v us=>
  obtain ⟨⟨cs,hv,hc,hs⟩,hr⟩:=h;subst hc;exact ⟨us,by rw[hv]; rfl,hs,hr⟩
theorem q731{w:World}{ok:Nat->Prop}{vs:List Value}{x:Unit}(h:ArgsOk w ok .nil vs x):vs=[]:=by
 cases vs with
 | nil=>rfl
 | cons v us=>exact h.elim
theorem q765{args:Array Value}{l:List Value}(h:args.toList=l):args=l.toArray:=by rw[<- h]
def PRE(_:World):Prop:=True
theorem q408(w w':World)(_:PRE w)(_:Ext w w'):PRE w':=trivial
def q146(N:Nat):FnSpec:=⟨(.pair .str (.pair (.int .u8) .nil)),(.pair (.int .i64) .nil),[],q63 N,false⟩
theorem q278:q19 Tryz.prog 126:=⟨_,Tryz.func126,by kernel_rfl,by kernel_rfl⟩
theorem q355(c:UInt8):∀ l:List UInt8,-1<=Lib.indexByte l c/\Lib.indexByte l c<=(l.length:Int)
 | []=>by simp[Lib.indexByte]
 | b :: l=>by
  have:=q355 c l;simp only[Lib.indexByte,List.length_cons];split
  .omega
  .split
   .omega
   .rename_i h _ ; push_cast; omega
theorem q530(l:List UInt8)(c:UInt8)(h:l.length<=maxLen):(Lit.int .i64 (Lib.indexByte l c)).wf=true:=by have:=q355 c l;unfold maxLen at h;exact wf_of (by show (-9223372036854775808:Int)<=_; omega) (by show _<=(9223372036854775807:Int); omega)
theorem q262(N:Nat):Sound Tryz.prog PRE 126 (q146 N):=by intro w args x r ok _ _ hA hx;obtain ⟨us,h1,h2,hA⟩:=q621 hA;obtain ⟨us',rfl,h3,hA⟩:=q835 hA;obtain rfl:=q731 hA;obtain rfl:=q765 h1;cases hx;exact (Tryz.strings_IndexByte x.1 x.2.1 w).mono fun e w' ⟨he,hw⟩=>⟨_,he,ResOk.ofFlat rfl (by rw[hw]; exact Ext.refl w) [_] rfl ⟨[_],[],rfl,⟨rfl,q530 _ _ (by simpa using h2)⟩,rfl⟩⟩
def q246(N:Nat):FnSpec:=⟨(.pair .str (.pair .str .nil)),(.pair .str .nil),[],q111 N,false⟩
theorem q444:q19 Tryz.prog 125:=⟨_,Tryz.func125,by kernel_rfl,by kernel_rfl⟩
theorem q727(l cs:List UInt8):(Lib.trimS l cs).length<=l.length:=by unfold Lib.trimS Lib.trimLeftS Lib.trimRightS;refine bG (List.dropWhile_sublist _).length_le ?_;rw[List.length_reverse];refine bG (List.dropWhile_sublist _).length_le ?_;rw[List.length_reverse];exact ae _
theorem q439(N:Nat):Sound Tryz.prog PRE 125 (q246 N):=by intro w args x r ok _ _ hA hx;obtain ⟨us,h1,h2,hA⟩:=q621 hA;obtain ⟨us',rfl,h3,hA⟩:=q621 hA;obtain rfl:=q731 hA;obtain rfl:=q765 h1;obtain ⟨hc,hx⟩:=q10 (show (bif (x.2.1.data.toList.all fun b=>decide (b.toNat<128)) && decide (x.2.1.size<4294967281) then some ((⟨(Lib.trimS x.1.data.toList x.2.1.data.toList).toArray⟩:ByteArray),()) else none)=some r from hx);cases hx;simp only[Bool.and_eq_true,ax] at hc;exact (Any.strings_Trim_laid Tryz.lays160 (by kernel_rfl) x.1 x.2.1 w (by unfold maxLen at h2; omega) hc.2 (ascii_of_all hc.1)).mono fun e w' ⟨he,hw⟩=>⟨_,he,ResOk.ofFlat rfl hw [_] rfl ⟨[_],[],rfl,⟨rfl,bG (q727 _ _) h2⟩,rfl⟩⟩
end Go.Proofs.YtcmhpcoiomdekaaGreatDoor
