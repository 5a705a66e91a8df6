/- The library's contracts at this dump,in plain words,as the kit's lay-shelf and lay-plain write them. No condition of its own. -/
import Derived.Shelf.Strings.Builder1
import Derived.Shelf.Strings.Builder2
import Derived.Shelf.Strings.Trim
import Derived.Shelf.Small.Utf8
import Derived.Shelf.Small.Strs
import Derived.Shelf.Strings.BuilderF
import Derived.Shelf.Strings.BuilderK
import Derived.Shelf.Strings.Builder2Cap
import Derived.Shelf.Strconv.Itoa0
import Derived.Shelf.Strconv.Itoa1
import Derived.Shelf.LaysM
import Derived.Shelf.Strconv.Itoa2
import Derived.Shelf.Strconv.Itoa3
import Derived.Shelf.Strconv.Itoa4
import Derived.Shelf.Strings.Search1
import Derived.Shelf.Strings.Prefix
import Derived.Shelf.Unicode.Decode
import Derived.Shelf.Strings.Runes
import Derived.Shelf.Strings.AsciiSet
import Derived.Shelf.Bits.Mul64
import Derived.Shelf.Strings.Repeat
import Derived.Shelf.Unicode.DecodeSlow
import Derived.Shelf.Unicode.DecodeAny
import Derived.Shelf.Unicode.DecodeLast
import Derived.Shelf.Slices.Turned
import Derived.Ground.SlgnProg
import Derived.Shelf.SlicesG.Turned
import Derived.Shelf.SlicesG.Reverse
import Derived.Shelf.SlicesG.Clone
import Derived.Shelf.SlicesG.SearchI
import Derived.Shelf.SlicesG.Cells
import Derived.Shelf.SlicesE.Reverse
import Derived.Shelf.SlicesE.Clone
import Derived.Test.YtjimamifmpbhgaaGreatDoorProg
namespace Go.Proofs
open Go.Shelf
def Tryz.lays160_ren:Go.Shelf.Ren:=⟨fun | 160=>275 | 232=>321 | 231=>320 | 227=>322 | 234=>324 | 233=>323 | 236=>326 | 235=>325 | 228=>357 | 271=>360 | 151=>359 | 197=>358 | 120=>383 | 152=>382 | 260=>381 | 137=>276 | 119=>395 | 224=>396 | 225=>397 | 217=>327 | 266=>361 | n=>n,fun | 9=>9 | 4=>4 | 3=>3 | 5=>5 | 117=>408 | 116=>407 | 0=>0 | 124=>411 | 21=>21 | 105=>438 | 46=>332 | 119=>461 | 139=>464 | 138=>463 | n=>n,fun | 3=>4 | 4=>5 | n=>n⟩
theorem Tryz.lays160:Go.Proofs.Lays.n160 Tryz.prog Tryz.lays160_ren:={
 mixed:=by kernel_rfl
 f119:=Tryz.func395.trans (congrArg some (by kernel_rfl))
 f120:=Tryz.func383.trans (congrArg some (by kernel_rfl))
 f137:=Tryz.func276.trans (congrArg some (by kernel_rfl))
 f151:=Tryz.func359.trans (congrArg some (by kernel_rfl))
 f152:=Tryz.func382.trans (congrArg some (by kernel_rfl))
 f160:=Tryz.func275.trans (congrArg some (by kernel_rfl))
 f197:=Tryz.func358.trans (congrArg some (by kernel_rfl))
 f217:=Tryz.func327.trans (congrArg some (by kernel_rfl))
 f224:=Tryz.func396.trans (congrArg some (by kernel_rfl))
 f225:=Tryz.func397.trans (congrArg some (by kernel_rfl))
 f227:=Tryz.func322.trans (congrArg some (by kernel_rfl))
 f228:=Tryz.func357.trans (congrArg some (by kernel_rfl))
 f231:=Tryz.func320.trans (congrArg some (by kernel_rfl))
 f232:=Tryz.func321.trans (congrArg some (by kernel_rfl))
 f233:=Tryz.func323.trans (congrArg some (by kernel_rfl))
 f234:=Tryz.func324.trans (congrArg some (by kernel_rfl))
 f235:=Tryz.func325.trans (congrArg some (by kernel_rfl))
 f236:=Tryz.func326.trans (congrArg some (by kernel_rfl))
 f260:=Tryz.func381.trans (congrArg some (by kernel_rfl))
 f266:=Tryz.func361.trans (congrArg some (by kernel_rfl))
 f271:=Tryz.func360.trans (congrArg some (by kernel_rfl))
 t0:=Tryz.underlying0
 a0:=Tryz.isAgg0
 z0:=Tryz.sizeOf0
 v0:=Tryz.zeroValue0
 t3:=Tryz.underlying3
 a3:=Tryz.isAgg3
 z3:=Tryz.sizeOf3
 v3:=Tryz.zeroValue3
 t4:=Tryz.underlying4
 a4:=Tryz.isAgg4
 z4:=Tryz.sizeOf4
 v4:=Tryz.zeroValue4
 t5:=Tryz.underlying5
 a5:=Tryz.isAgg5
 z5:=Tryz.sizeOf5
 v5:=Tryz.zeroValue5
 t9:=Tryz.underlying9
 a9:=Tryz.isAgg9
 z9:=Tryz.sizeOf9
 v9:=Tryz.zeroValue9
 t21:=Tryz.underlying21
 a21:=Tryz.isAgg21
 z21:=Tryz.sizeOf21
 v21:=Tryz.zeroValue21
 t46:=Tryz.underlying332
 a46:=Tryz.isAgg332
 z46:=Tryz.sizeOf332
 v46:=Tryz.zeroValue332
 t105:=Tryz.underlying438
 a105:=Tryz.isAgg438
 z105:=Tryz.sizeOf438
 v105:=Tryz.zeroValue438
 t116:=Tryz.underlying407
 a116:=Tryz.isAgg407
 z116:=Tryz.sizeOf407
 t117:=Tryz.underlying408
 a117:=Tryz.isAgg408
 z117:=Tryz.sizeOf408
 v117:=Tryz.zeroValue408
 t119:=Tryz.underlying461
 a119:=Tryz.isAgg461
 z119:=Tryz.sizeOf461
 t124:=Tryz.underlying411
 a124:=Tryz.isAgg411
 z124:=Tryz.sizeOf411
 v124:=Tryz.zeroValue411
 t138:=Tryz.underlying463
 a138:=Tryz.isAgg463
 z138:=Tryz.sizeOf463
 v138:=Tryz.zeroValue463
 t139:=Tryz.underlying464
 a139:=Tryz.isAgg464
 z139:=Tryz.sizeOf464
 v139:=Tryz.zeroValue464
 g3:=by kernel_rfl
 g4:=by kernel_rfl }
def Tryz.lays137_ren:Go.Shelf.Ren:=⟨fun | 137=>276 | 217=>327 | 266=>361 | n=>n,fun | 9=>9 | 5=>5 | 3=>3 | n=>n,fun | n=>n⟩
theorem Tryz.lays137:Go.Proofs.Lays.n137 Tryz.prog Tryz.lays137_ren:={
 mixed:=by kernel_rfl
 f137:=Tryz.func276.trans (congrArg some (by kernel_rfl))
 f217:=Tryz.func327.trans (congrArg some (by kernel_rfl))
 f266:=Tryz.func361.trans (congrArg some (by kernel_rfl))
 t3:=Tryz.underlying3
 a3:=Tryz.isAgg3
 z3:=Tryz.sizeOf3
 v3:=Tryz.zeroValue3
 t5:=Tryz.underlying5
 a5:=Tryz.isAgg5
 z5:=Tryz.sizeOf5
 v5:=Tryz.zeroValue5
 t9:=Tryz.underlying9
 a9:=Tryz.isAgg9
 z9:=Tryz.sizeOf9
 v9:=Tryz.zeroValue9 }
open Go.RowKit in
theorem Tryz.strings_IndexByte (s:ByteArray) (c:Int) (w:World):
 Calls Tryz.prog 276 #[.string s,.int .u8 c] w fun e w'=>e = .returned (.int .i64 (Lib.indexByte s.data.toList c.toNat.toUInt8))∧w'=w:=Any.strings_IndexByte Tryz.lays137 s c w
end Go.Proofs
