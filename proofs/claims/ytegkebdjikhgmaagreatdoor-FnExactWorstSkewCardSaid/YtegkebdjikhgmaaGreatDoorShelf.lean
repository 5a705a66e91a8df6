/- The library's contracts at this dump,in plain words,as the kit's lay-shelf and lay-plain write them. No condition of its own. -/
import Derived.Shelf.Strings.Builder1
import Derived.Shelf.Strings.Builder2
import Derived.Shelf.Strings.Trim
import Derived.Shelf.Small.Utf8
import Derived.Shelf.Small.Strs
import Derived.Shelf.Strings.BuilderF
import Derived.Shelf.Strconv.Itoa0
import Derived.Shelf.Strconv.Itoa1
import Derived.Shelf.LaysM
import Derived.Shelf.Strconv.Itoa2
import Derived.Shelf.Strconv.Itoa3
import Derived.Shelf.Strconv.Itoa4
import Derived.Shelf.Strings.Search1
import Derived.Shelf.Strings.Prefix
import Derived.Shelf.Strings.Runes
import Derived.Shelf.Strings.AsciiSet
import Derived.Shelf.Bits.Mul64
import Derived.Shelf.Strings.Repeat
import Derived.Shelf.Unicode.DecodeSlow
import Derived.Test.YtegkebdjikhgmaaGreatDoorProg
namespace Go.Proofs
open Go.Shelf
def Tryz.lays160_ren:Go.Shelf.Ren:=⟨fun | 160=>264 | 232=>290 | 231=>289 | 227=>291 | 234=>293 | 233=>292 | 236=>295 | 235=>294 | 228=>307 | 271=>310 | 151=>309 | 197=>308 | 120=>323 | 152=>322 | 260=>321 | 137=>265 | 119=>331 | 224=>332 | 225=>333 | 217=>296 | 266=>311 | n=>n,fun | 9=>9 | 4=>4 | 3=>3 | 5=>5 | 117=>394 | 116=>393 | 0=>0 | 124=>397 | 21=>21 | 105=>405 | 46=>258 | 119=>417 | 139=>420 | 138=>419 | n=>n,fun | 3=>6 | 4=>7 | n=>n⟩
theorem Tryz.lays160:Go.Proofs.Lays.n160 Tryz.prog Tryz.lays160_ren:={
 mixed:=by kernel_rfl
 f119:=Tryz.func331.trans (congrArg some (by kernel_rfl))
 f120:=Tryz.func323.trans (congrArg some (by kernel_rfl))
 f137:=Tryz.func265.trans (congrArg some (by kernel_rfl))
 f151:=Tryz.func309.trans (congrArg some (by kernel_rfl))
 f152:=Tryz.func322.trans (congrArg some (by kernel_rfl))
 f160:=Tryz.func264.trans (congrArg some (by kernel_rfl))
 f197:=Tryz.func308.trans (congrArg some (by kernel_rfl))
 f217:=Tryz.func296.trans (congrArg some (by kernel_rfl))
 f224:=Tryz.func332.trans (congrArg some (by kernel_rfl))
 f225:=Tryz.func333.trans (congrArg some (by kernel_rfl))
 f227:=Tryz.func291.trans (congrArg some (by kernel_rfl))
 f228:=Tryz.func307.trans (congrArg some (by kernel_rfl))
 f231:=Tryz.func289.trans (congrArg some (by kernel_rfl))
 f232:=Tryz.func290.trans (congrArg some (by kernel_rfl))
 f233:=Tryz.func292.trans (congrArg some (by kernel_rfl))
 f234:=Tryz.func293.trans (congrArg some (by kernel_rfl))
 f235:=Tryz.func294.trans (congrArg some (by kernel_rfl))
 f236:=Tryz.func295.trans (congrArg some (by kernel_rfl))
 f260:=Tryz.func321.trans (congrArg some (by kernel_rfl))
 f266:=Tryz.func311.trans (congrArg some (by kernel_rfl))
 f271:=Tryz.func310.trans (congrArg some (by kernel_rfl))
 t0:=Tryz.underlying0
 a0:=Tryz.isAgg0
 z0:=Tryz.sizeOf0
 v0:=Tryz.zeroValue0
 t3:=Tryz.underlying3
 a3:=Tryz.isAgg3
 z3:=Tryz.sizeOf3
 v3:=Tryz.zeroValue3
 t4:=Tryz.underlying4
 a4:=Tryz.isAgg4
 z4:=Tryz.sizeOf4
 v4:=Tryz.zeroValue4
 t5:=Tryz.underlying5
 a5:=Tryz.isAgg5
 z5:=Tryz.sizeOf5
 v5:=Tryz.zeroValue5
 t9:=Tryz.underlying9
 a9:=Tryz.isAgg9
 z9:=Tryz.sizeOf9
 v9:=Tryz.zeroValue9
 t21:=Tryz.underlying21
 a21:=Tryz.isAgg21
 z21:=Tryz.sizeOf21
 v21:=Tryz.zeroValue21
 t46:=Tryz.underlying258
 a46:=Tryz.isAgg258
 z46:=Tryz.sizeOf258
 v46:=Tryz.zeroValue258
 t105:=Tryz.underlying405
 a105:=Tryz.isAgg405
 z105:=Tryz.sizeOf405
 v105:=Tryz.zeroValue405
 t116:=Tryz.underlying393
 a116:=Tryz.isAgg393
 z116:=Tryz.sizeOf393
 t117:=Tryz.underlying394
 a117:=Tryz.isAgg394
 z117:=Tryz.sizeOf394
 v117:=Tryz.zeroValue394
 t119:=Tryz.underlying417
 a119:=Tryz.isAgg417
 z119:=Tryz.sizeOf417
 t124:=Tryz.underlying397
 a124:=Tryz.isAgg397
 z124:=Tryz.sizeOf397
 v124:=Tryz.zeroValue397
 t138:=Tryz.underlying419
 a138:=Tryz.isAgg419
 z138:=Tryz.sizeOf419
 v138:=Tryz.zeroValue419
 t139:=Tryz.underlying420
 a139:=Tryz.isAgg420
 z139:=Tryz.sizeOf420
 v139:=Tryz.zeroValue420
 g3:=by kernel_rfl
 g4:=by kernel_rfl }
def Tryz.lays137_ren:Go.Shelf.Ren:=⟨fun | 137=>265 | 217=>296 | 266=>311 | n=>n,fun | 9=>9 | 5=>5 | 3=>3 | n=>n,fun | n=>n⟩
theorem Tryz.lays137:Go.Proofs.Lays.n137 Tryz.prog Tryz.lays137_ren:={
 mixed:=by kernel_rfl
 f137:=Tryz.func265.trans (congrArg some (by kernel_rfl))
 f217:=Tryz.func296.trans (congrArg some (by kernel_rfl))
 f266:=Tryz.func311.trans (congrArg some (by kernel_rfl))
 t3:=Tryz.underlying3
 a3:=Tryz.isAgg3
 z3:=Tryz.sizeOf3
 v3:=Tryz.zeroValue3
 t5:=Tryz.underlying5
 a5:=Tryz.isAgg5
 z5:=Tryz.sizeOf5
 v5:=Tryz.zeroValue5
 t9:=Tryz.underlying9
 a9:=Tryz.isAgg9
 z9:=Tryz.sizeOf9
 v9:=Tryz.zeroValue9 }
open Go.RowKit in
theorem Tryz.strings_IndexByte(s:ByteArray)(c:Int)(w:World):
 Calls Tryz.prog 265 #[.string s,.int .u8 c] w fun e w'=>e = .returned (.int .i64 (Lib.indexByte s.data.toList c.toNat.toUInt8))/\w'=w:=Any.strings_IndexByte Tryz.lays137 s c w
end Go.Proofs
