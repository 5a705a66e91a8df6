/- The library's contracts at this dump,in plain words,as the kit's lay-shelf and lay-plain write them. No condition of its own. -/
import Derived.Shelf.Strings.Builder1
import Derived.Shelf.Strings.Builder2
import Derived.Shelf.Strings.Trim
import Derived.Shelf.Small.Utf8
import Derived.Shelf.Small.Strs
import Derived.Shelf.Strings.BuilderF
import Derived.Shelf.Strings.BuilderK
import Derived.Shelf.Utf8.RuneCount
import Derived.Shelf.Strings.Builder2Cap
import Derived.Shelf.Strconv.Itoa0
import Derived.Shelf.Strconv.Itoa1
import Derived.Shelf.LaysM
import Derived.Shelf.Strconv.Itoa2
import Derived.Shelf.Strconv.Itoa3
import Derived.Shelf.Strconv.Itoa4
import Derived.Shelf.Strings.Search1
import Derived.Shelf.Strings.Search2
import Derived.Shelf.Strings.Search3
import Derived.Shelf.Strings.Cut
import Derived.Shelf.Strings.Count
import Derived.Shelf.Strings.Shaped
import Derived.Shelf.Strings.Prefix
import Derived.Shelf.Strings.Split
import Derived.Shelf.Strings.SplitShaped
import Derived.Shelf.Unicode.Decode
import Derived.Shelf.Strings.Runes
import Derived.Shelf.Strings.RuneCount
import Derived.Shelf.Strings.AsciiSet
import Derived.Shelf.Strings.Explode
import Derived.Shelf.Bits.Mul64
import Derived.Shelf.Strings.Repeat
import Derived.Shelf.Unicode.DecodeSlow
import Derived.Shelf.Unicode.DecodeAny
import Derived.Shelf.Unicode.DecodeLast
import Derived.Shelf.Strings.BuilderCap
import Derived.Shelf.Slices.Turned
import Derived.Ground.SlgnProg
import Derived.Shelf.SlicesG.Turned
import Derived.Shelf.SlicesG.Reverse
import Derived.Shelf.SlicesG.Clone
import Derived.Shelf.SlicesG.SearchI
import Derived.Shelf.SlicesG.Cells
import Derived.Shelf.SlicesE.Reverse
import Derived.Shelf.SlicesE.Clone
import Derived.Ground.SlgcProg
import Derived.Shelf.SlicesG.Cmp
import Derived.Test.YtcmhpcoiomdekaaGreatDoorProg
namespace Go.Proofs
open Go.Shelf
def Tryz.lays160_ren:Go.Shelf.Ren:=⟨fun | 160=>125 | 232=>198 | 231=>197 | 227=>199 | 234=>201 | 233=>200 | 236=>203 | 235=>202 | 228=>259 | 271=>262 | 151=>261 | 197=>260 | 120=>303 | 152=>302 | 260=>301 | 137=>126 | 119=>330 | 224=>320 | 225=>319 | 217=>204 | 266=>263 | n=>n,fun | 9=>9 | 4=>4 | 3=>3 | 5=>5 | 117=>278 | 116=>277 | 0=>0 | 124=>281 | 21=>21 | 105=>325 | 46=>339 | 119=>392 | 139=>395 | 138=>394 | n=>n,fun | 3=>3 | 4=>4 | n=>n⟩
theorem Tryz.lays160:Go.Proofs.Lays.n160 Tryz.prog Tryz.lays160_ren:={
 mixed:=by kernel_rfl
 f119:=Tryz.func330.trans (congrArg some (by kernel_rfl))
 f120:=Tryz.func303.trans (congrArg some (by kernel_rfl))
 f137:=Tryz.func126.trans (congrArg some (by kernel_rfl))
 f151:=Tryz.func261.trans (congrArg some (by kernel_rfl))
 f152:=Tryz.func302.trans (congrArg some (by kernel_rfl))
 f160:=Tryz.func125.trans (congrArg some (by kernel_rfl))
 f197:=Tryz.func260.trans (congrArg some (by kernel_rfl))
 f217:=Tryz.func204.trans (congrArg some (by kernel_rfl))
 f224:=Tryz.func320.trans (congrArg some (by kernel_rfl))
 f225:=Tryz.func319.trans (congrArg some (by kernel_rfl))
 f227:=Tryz.func199.trans (congrArg some (by kernel_rfl))
 f228:=Tryz.func259.trans (congrArg some (by kernel_rfl))
 f231:=Tryz.func197.trans (congrArg some (by kernel_rfl))
 f232:=Tryz.func198.trans (congrArg some (by kernel_rfl))
 f233:=Tryz.func200.trans (congrArg some (by kernel_rfl))
 f234:=Tryz.func201.trans (congrArg some (by kernel_rfl))
 f235:=Tryz.func202.trans (congrArg some (by kernel_rfl))
 f236:=Tryz.func203.trans (congrArg some (by kernel_rfl))
 f260:=Tryz.func301.trans (congrArg some (by kernel_rfl))
 f266:=Tryz.func263.trans (congrArg some (by kernel_rfl))
 f271:=Tryz.func262.trans (congrArg some (by kernel_rfl))
 t0:=Tryz.underlying0
 a0:=Tryz.isAgg0
 z0:=Tryz.sizeOf0
 v0:=Tryz.zeroValue0
 t3:=Tryz.underlying3
 a3:=Tryz.isAgg3
 z3:=Tryz.sizeOf3
 v3:=Tryz.zeroValue3
 t4:=Tryz.underlying4
 a4:=Tryz.isAgg4
 z4:=Tryz.sizeOf4
 v4:=Tryz.zeroValue4
 t5:=Tryz.underlying5
 a5:=Tryz.isAgg5
 z5:=Tryz.sizeOf5
 v5:=Tryz.zeroValue5
 t9:=Tryz.underlying9
 a9:=Tryz.isAgg9
 z9:=Tryz.sizeOf9
 v9:=Tryz.zeroValue9
 t21:=Tryz.underlying21
 a21:=Tryz.isAgg21
 z21:=Tryz.sizeOf21
 v21:=Tryz.zeroValue21
 t46:=Tryz.underlying339
 a46:=Tryz.isAgg339
 z46:=Tryz.sizeOf339
 v46:=Tryz.zeroValue339
 t105:=Tryz.underlying325
 a105:=Tryz.isAgg325
 z105:=Tryz.sizeOf325
 v105:=Tryz.zeroValue325
 t116:=Tryz.underlying277
 a116:=Tryz.isAgg277
 z116:=Tryz.sizeOf277
 t117:=Tryz.underlying278
 a117:=Tryz.isAgg278
 z117:=Tryz.sizeOf278
 v117:=Tryz.zeroValue278
 t119:=Tryz.underlying392
 a119:=Tryz.isAgg392
 z119:=Tryz.sizeOf392
 t124:=Tryz.underlying281
 a124:=Tryz.isAgg281
 z124:=Tryz.sizeOf281
 v124:=Tryz.zeroValue281
 t138:=Tryz.underlying394
 a138:=Tryz.isAgg394
 z138:=Tryz.sizeOf394
 v138:=Tryz.zeroValue394
 t139:=Tryz.underlying395
 a139:=Tryz.isAgg395
 z139:=Tryz.sizeOf395
 v139:=Tryz.zeroValue395
 g3:=by kernel_rfl
 g4:=by kernel_rfl }
def Tryz.lays137_ren:Go.Shelf.Ren:=⟨fun | 137=>126 | 217=>204 | 266=>263 | n=>n,fun | 9=>9 | 5=>5 | 3=>3 | n=>n,fun | n=>n⟩
theorem Tryz.lays137:Go.Proofs.Lays.n137 Tryz.prog Tryz.lays137_ren:={
 mixed:=by kernel_rfl
 f137:=Tryz.func126.trans (congrArg some (by kernel_rfl))
 f217:=Tryz.func204.trans (congrArg some (by kernel_rfl))
 f266:=Tryz.func263.trans (congrArg some (by kernel_rfl))
 t3:=Tryz.underlying3
 a3:=Tryz.isAgg3
 z3:=Tryz.sizeOf3
 v3:=Tryz.zeroValue3
 t5:=Tryz.underlying5
 a5:=Tryz.isAgg5
 z5:=Tryz.sizeOf5
 v5:=Tryz.zeroValue5
 t9:=Tryz.underlying9
 a9:=Tryz.isAgg9
 z9:=Tryz.sizeOf9
 v9:=Tryz.zeroValue9 }
open Go.RowKit in
theorem Tryz.strings_IndexByte(s:ByteArray)(c:Int)(w:World):
 Calls Tryz.prog 126 #[.string s,.int .u8 c] w fun e w'=>e = .returned (.int .i64 (Lib.indexByte s.data.toList c.toNat.toUInt8))/\w'=w:=Any.strings_IndexByte Tryz.lays137 s c w
end Go.Proofs
