/- The library's contracts at this dump,in plain words,as the kit's lay-shelf and lay-plain write them. No condition of its own. -/
import Derived.Shelf.Strings.Trim
import Derived.Shelf.Small.Utf8
import Derived.Shelf.Small.Bits
import Derived.Shelf.Small.Strs
import Derived.Shelf.Strconv.Itoa0
import Derived.Shelf.Strings.Search1
import Derived.Shelf.Unicode.Decode
import Derived.Shelf.Strings.Runes
import Derived.Shelf.Strings.AsciiSet
import Derived.Shelf.Unicode.DecodeSlow
import Derived.Shelf.Unicode.DecodeAny
import Derived.Shelf.Unicode.DecodeLast
import Derived.Ground.SlgnProg
import Derived.Shelf.SlicesE.Clone
import Derived.Test.YtdgabcjahjmdoaaGreatDoorProg
namespace Go.Proofs
open Go.Shelf
def Tryz.lays160_ren:Go.Shelf.Ren:=⟨fun | 160=>183 | 232=>236 | 231=>235 | 227=>237 | 234=>239 | 233=>238 | 236=>241 | 235=>240 | 228=>282 | 271=>285 | 151=>284 | 197=>283 | 120=>310 | 152=>309 | 260=>308 | 137=>184 | 119=>323 | 224=>324 | 225=>325 | 217=>242 | 266=>286 | n=>n,fun | 9=>9 | 4=>4 | 3=>3 | 5=>5 | 117=>319 | 116=>318 | 0=>0 | 124=>322 | 21=>21 | 105=>358 | 46=>247 | 119=>388 | 139=>391 | 138=>390 | n=>n,fun | 3=>1 | 4=>2 | n=>n⟩
theorem Tryz.lays160:Go.Proofs.Lays.n160 Tryz.prog Tryz.lays160_ren:={
 mixed:=by kernel_rfl
 f119:=Tryz.func323.trans (congrArg some (by kernel_rfl))
 f120:=Tryz.func310.trans (congrArg some (by kernel_rfl))
 f137:=Tryz.func184.trans (congrArg some (by kernel_rfl))
 f151:=Tryz.func284.trans (congrArg some (by kernel_rfl))
 f152:=Tryz.func309.trans (congrArg some (by kernel_rfl))
 f160:=Tryz.func183.trans (congrArg some (by kernel_rfl))
 f197:=Tryz.func283.trans (congrArg some (by kernel_rfl))
 f217:=Tryz.func242.trans (congrArg some (by kernel_rfl))
 f224:=Tryz.func324.trans (congrArg some (by kernel_rfl))
 f225:=Tryz.func325.trans (congrArg some (by kernel_rfl))
 f227:=Tryz.func237.trans (congrArg some (by kernel_rfl))
 f228:=Tryz.func282.trans (congrArg some (by kernel_rfl))
 f231:=Tryz.func235.trans (congrArg some (by kernel_rfl))
 f232:=Tryz.func236.trans (congrArg some (by kernel_rfl))
 f233:=Tryz.func238.trans (congrArg some (by kernel_rfl))
 f234:=Tryz.func239.trans (congrArg some (by kernel_rfl))
 f235:=Tryz.func240.trans (congrArg some (by kernel_rfl))
 f236:=Tryz.func241.trans (congrArg some (by kernel_rfl))
 f260:=Tryz.func308.trans (congrArg some (by kernel_rfl))
 f266:=Tryz.func286.trans (congrArg some (by kernel_rfl))
 f271:=Tryz.func285.trans (congrArg some (by kernel_rfl))
 t0:=Tryz.underlying0
 a0:=Tryz.isAgg0
 z0:=Tryz.sizeOf0
 v0:=Tryz.zeroValue0
 t3:=Tryz.underlying3
 a3:=Tryz.isAgg3
 z3:=Tryz.sizeOf3
 v3:=Tryz.zeroValue3
 t4:=Tryz.underlying4
 a4:=Tryz.isAgg4
 z4:=Tryz.sizeOf4
 v4:=Tryz.zeroValue4
 t5:=Tryz.underlying5
 a5:=Tryz.isAgg5
 z5:=Tryz.sizeOf5
 v5:=Tryz.zeroValue5
 t9:=Tryz.underlying9
 a9:=Tryz.isAgg9
 z9:=Tryz.sizeOf9
 v9:=Tryz.zeroValue9
 t21:=Tryz.underlying21
 a21:=Tryz.isAgg21
 z21:=Tryz.sizeOf21
 v21:=Tryz.zeroValue21
 t46:=Tryz.underlying247
 a46:=Tryz.isAgg247
 z46:=Tryz.sizeOf247
 v46:=Tryz.zeroValue247
 t105:=Tryz.underlying358
 a105:=Tryz.isAgg358
 z105:=Tryz.sizeOf358
 v105:=Tryz.zeroValue358
 t116:=Tryz.underlying318
 a116:=Tryz.isAgg318
 z116:=Tryz.sizeOf318
 t117:=Tryz.underlying319
 a117:=Tryz.isAgg319
 z117:=Tryz.sizeOf319
 v117:=Tryz.zeroValue319
 t119:=Tryz.underlying388
 a119:=Tryz.isAgg388
 z119:=Tryz.sizeOf388
 t124:=Tryz.underlying322
 a124:=Tryz.isAgg322
 z124:=Tryz.sizeOf322
 v124:=Tryz.zeroValue322
 t138:=Tryz.underlying390
 a138:=Tryz.isAgg390
 z138:=Tryz.sizeOf390
 v138:=Tryz.zeroValue390
 t139:=Tryz.underlying391
 a139:=Tryz.isAgg391
 z139:=Tryz.sizeOf391
 v139:=Tryz.zeroValue391
 g3:=by kernel_rfl
 g4:=by kernel_rfl }
def Tryz.lays137_ren:Go.Shelf.Ren:=⟨fun | 137=>184 | 217=>242 | 266=>286 | n=>n,fun | 9=>9 | 5=>5 | 3=>3 | n=>n,fun | n=>n⟩
theorem Tryz.lays137:Go.Proofs.Lays.n137 Tryz.prog Tryz.lays137_ren:={
 mixed:=by kernel_rfl
 f137:=Tryz.func184.trans (congrArg some (by kernel_rfl))
 f217:=Tryz.func242.trans (congrArg some (by kernel_rfl))
 f266:=Tryz.func286.trans (congrArg some (by kernel_rfl))
 t3:=Tryz.underlying3
 a3:=Tryz.isAgg3
 z3:=Tryz.sizeOf3
 v3:=Tryz.zeroValue3
 t5:=Tryz.underlying5
 a5:=Tryz.isAgg5
 z5:=Tryz.sizeOf5
 v5:=Tryz.zeroValue5
 t9:=Tryz.underlying9
 a9:=Tryz.isAgg9
 z9:=Tryz.sizeOf9
 v9:=Tryz.zeroValue9 }
open Go.RowKit in
theorem Tryz.strings_IndexByte(s:ByteArray)(c:Int)(w:World):
 Calls Tryz.prog 184 #[.string s,.int .u8 c] w fun e w'=>e = .returned (.int .i64 (Lib.indexByte s.data.toList c.toNat.toUInt8))/\w'=w:=Any.strings_IndexByte Tryz.lays137 s c w
end Go.Proofs
