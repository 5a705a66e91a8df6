/- The library's contracts at this dump,in plain words,as the kit's lay-shelf and lay-plain write them. No condition of its own. -/
import Derived.Shelf.Strings.Trim
import Derived.Shelf.Small.Utf8
import Derived.Shelf.Small.Strs
import Derived.Shelf.Strconv.Itoa0
import Derived.Shelf.Strings.Search1
import Derived.Shelf.Strings.Runes
import Derived.Shelf.Strings.AsciiSet
import Derived.Shelf.Unicode.DecodeSlow
import Derived.Ground.SlgnProg
import Derived.Shelf.SlicesG.CompactI
import Derived.Shelf.SortG.Plain
import Derived.Shelf.SortG.SortNone
import Derived.Test.YtgldiandbkfmkaaGreatDoorProg
namespace Go.Proofs
open Go.Shelf
def Tryz.lays160_ren:Go.Shelf.Ren:=⟨fun | 160=>264 | 232=>281 | 231=>280 | 227=>282 | 234=>284 | 233=>283 | 236=>286 | 235=>285 | 228=>297 | 271=>300 | 151=>299 | 197=>298 | 120=>318 | 152=>317 | 260=>316 | 137=>265 | 119=>325 | 224=>326 | 225=>327 | 217=>287 | 266=>301 | n=>n,fun | 9=>9 | 4=>4 | 3=>3 | 5=>5 | 117=>346 | 116=>345 | 0=>0 | 124=>349 | 21=>21 | 105=>355 | 46=>101 | 119=>373 | 139=>376 | 138=>375 | n=>n,fun | 3=>1 | 4=>2 | n=>n⟩
theorem Tryz.lays160:Go.Proofs.Lays.n160 Tryz.prog Tryz.lays160_ren:={
 mixed:=by kernel_rfl
 f119:=Tryz.func325.trans (congrArg some (by kernel_rfl))
 f120:=Tryz.func318.trans (congrArg some (by kernel_rfl))
 f137:=Tryz.func265.trans (congrArg some (by kernel_rfl))
 f151:=Tryz.func299.trans (congrArg some (by kernel_rfl))
 f152:=Tryz.func317.trans (congrArg some (by kernel_rfl))
 f160:=Tryz.func264.trans (congrArg some (by kernel_rfl))
 f197:=Tryz.func298.trans (congrArg some (by kernel_rfl))
 f217:=Tryz.func287.trans (congrArg some (by kernel_rfl))
 f224:=Tryz.func326.trans (congrArg some (by kernel_rfl))
 f225:=Tryz.func327.trans (congrArg some (by kernel_rfl))
 f227:=Tryz.func282.trans (congrArg some (by kernel_rfl))
 f228:=Tryz.func297.trans (congrArg some (by kernel_rfl))
 f231:=Tryz.func280.trans (congrArg some (by kernel_rfl))
 f232:=Tryz.func281.trans (congrArg some (by kernel_rfl))
 f233:=Tryz.func283.trans (congrArg some (by kernel_rfl))
 f234:=Tryz.func284.trans (congrArg some (by kernel_rfl))
 f235:=Tryz.func285.trans (congrArg some (by kernel_rfl))
 f236:=Tryz.func286.trans (congrArg some (by kernel_rfl))
 f260:=Tryz.func316.trans (congrArg some (by kernel_rfl))
 f266:=Tryz.func301.trans (congrArg some (by kernel_rfl))
 f271:=Tryz.func300.trans (congrArg some (by kernel_rfl))
 t0:=Tryz.underlying0
 a0:=Tryz.isAgg0
 z0:=Tryz.sizeOf0
 v0:=Tryz.zeroValue0
 t3:=Tryz.underlying3
 a3:=Tryz.isAgg3
 z3:=Tryz.sizeOf3
 v3:=Tryz.zeroValue3
 t4:=Tryz.underlying4
 a4:=Tryz.isAgg4
 z4:=Tryz.sizeOf4
 v4:=Tryz.zeroValue4
 t5:=Tryz.underlying5
 a5:=Tryz.isAgg5
 z5:=Tryz.sizeOf5
 v5:=Tryz.zeroValue5
 t9:=Tryz.underlying9
 a9:=Tryz.isAgg9
 z9:=Tryz.sizeOf9
 v9:=Tryz.zeroValue9
 t21:=Tryz.underlying21
 a21:=Tryz.isAgg21
 z21:=Tryz.sizeOf21
 v21:=Tryz.zeroValue21
 t46:=Tryz.underlying101
 a46:=Tryz.isAgg101
 z46:=Tryz.sizeOf101
 v46:=Tryz.zeroValue101
 t105:=Tryz.underlying355
 a105:=Tryz.isAgg355
 z105:=Tryz.sizeOf355
 v105:=Tryz.zeroValue355
 t116:=Tryz.underlying345
 a116:=Tryz.isAgg345
 z116:=Tryz.sizeOf345
 t117:=Tryz.underlying346
 a117:=Tryz.isAgg346
 z117:=Tryz.sizeOf346
 v117:=Tryz.zeroValue346
 t119:=Tryz.underlying373
 a119:=Tryz.isAgg373
 z119:=Tryz.sizeOf373
 t124:=Tryz.underlying349
 a124:=Tryz.isAgg349
 z124:=Tryz.sizeOf349
 v124:=Tryz.zeroValue349
 t138:=Tryz.underlying375
 a138:=Tryz.isAgg375
 z138:=Tryz.sizeOf375
 v138:=Tryz.zeroValue375
 t139:=Tryz.underlying376
 a139:=Tryz.isAgg376
 z139:=Tryz.sizeOf376
 v139:=Tryz.zeroValue376
 g3:=by kernel_rfl
 g4:=by kernel_rfl }
def Tryz.lays137_ren:Go.Shelf.Ren:=⟨fun | 137=>265 | 217=>287 | 266=>301 | n=>n,fun | 9=>9 | 5=>5 | 3=>3 | n=>n,fun | n=>n⟩
theorem Tryz.lays137:Go.Proofs.Lays.n137 Tryz.prog Tryz.lays137_ren:={
 mixed:=by kernel_rfl
 f137:=Tryz.func265.trans (congrArg some (by kernel_rfl))
 f217:=Tryz.func287.trans (congrArg some (by kernel_rfl))
 f266:=Tryz.func301.trans (congrArg some (by kernel_rfl))
 t3:=Tryz.underlying3
 a3:=Tryz.isAgg3
 z3:=Tryz.sizeOf3
 v3:=Tryz.zeroValue3
 t5:=Tryz.underlying5
 a5:=Tryz.isAgg5
 z5:=Tryz.sizeOf5
 v5:=Tryz.zeroValue5
 t9:=Tryz.underlying9
 a9:=Tryz.isAgg9
 z9:=Tryz.sizeOf9
 v9:=Tryz.zeroValue9 }
open Go.RowKit in
theorem Tryz.strings_IndexByte(s:ByteArray)(c:Int)(w:World):
 Calls Tryz.prog 265 #[.string s,.int .u8 c] w fun e w'=>e = .returned (.int .i64 (Lib.indexByte s.data.toList c.toNat.toUInt8))/\w'=w:=Any.strings_IndexByte Tryz.lays137 s c w
def Tryz.laysSlN43_f61_ren:Go.Shelf.Ren:=⟨fun | 43=>61 | n=>n,fun | 22=>35 | 23=>2 | 3=>3 | 4=>4 | 0=>0 | n=>n,fun | n=>n⟩
theorem Tryz.laysSlN43_f61:Go.Proofs.SlLaysN.n43 Tryz.prog Tryz.laysSlN43_f61_ren:={
 mixed:=by kernel_rfl
 f43:=⟨Tryz.f61.name,by decide,Tryz.func61.trans (congrArg some (by kernel_rfl))⟩
 t0:=Tryz.underlying0
 a0:=Tryz.isAgg0
 z0:=Tryz.sizeOf0
 v0:=Tryz.zeroValue0
 t3:=Tryz.underlying3
 a3:=Tryz.isAgg3
 z3:=Tryz.sizeOf3
 v3:=Tryz.zeroValue3
 t4:=Tryz.underlying4
 a4:=Tryz.isAgg4
 z4:=Tryz.sizeOf4
 v4:=Tryz.zeroValue4
 t22:=Tryz.underlying35
 a22:=Tryz.isAgg35
 z22:=Tryz.sizeOf35
 v22:=Tryz.zeroValue35
 t23:=Tryz.underlying2
 a23:=Tryz.isAgg2
 z23:=Tryz.sizeOf2
 v23:=Tryz.zeroValue2
 i23:=by kernel_rfl }
open Go.RowKit Go.Lib Go.Sort in
theorem Tryz.slices_Compact_int(blk off cap:Nat)(zs:List Int)(w:World)(hH:Holds (Value.int .i64) w blk off zs.toArray)(hsz:zs.length<=9223372036854775807)(hcap:zs.length<=cap):
 Calls Tryz.prog 61 #[.slice (some ⟨blk,off,none⟩) zs.length cap] w fun e w'=>e = .returned (.slice (some ⟨blk,off,none⟩) (Lib.compact zs).length cap)/\∃ q,w'=putRow (Value.int .i64) (Sort.ahead w q) blk off (Lib.compact zs++List.replicate (zs.length - (Lib.compact zs).length) 0).toArray:=AnyG.slices_Compact_int Tryz.laysSlN43_f61 blk off cap zs w hH hsz hcap
open Go.RowKit Go.Lib Go.Sort in
theorem Tryz.slices_Compact_int_empty(a:Option Addr)(cap:Nat)(w:World):
 Calls Tryz.prog 61 #[.slice a 0 cap] w fun e w'=>e = .returned (.slice a 0 cap)/\w'=w:=AnyG.slices_Compact_int_empty Tryz.laysSlN43_f61 a cap w
def Tryz.laysSlN53_ren:Go.Shelf.Ren:=⟨fun | 53=>60 | 64=>122 | 63=>121 | 78=>172 | 79=>173 | 70=>163 | 71=>164 | 72=>165 | 73=>166 | 74=>167 | 75=>168 | 59=>169 | 76=>170 | 77=>171 | 88=>201 | 89=>202 | 90=>203 | 91=>204 | 92=>205 | 68=>180 | 96=>231 | n=>n,fun | 22=>35 | 23=>2 | 3=>3 | 51=>101 | 0=>0 | 67=>234 | 69=>42 | 4=>4 | 61=>226 | 60=>225 | 44=>231 | 5=>5 | 9=>9 | 75=>265 | 79=>269 | 83=>298 | 84=>299 | n=>n,fun | n=>n⟩
theorem Tryz.laysSlN53:Go.Proofs.SlLaysN.n53 Tryz.prog Tryz.laysSlN53_ren:={
 mixed:=by kernel_rfl
 f53:=⟨Tryz.f60.name,by decide,Tryz.func60.trans (congrArg some (by kernel_rfl))⟩
 f59:=⟨Tryz.f169.name,by decide,Tryz.func169.trans (congrArg some (by kernel_rfl))⟩
 f63:=⟨Tryz.f121.name,by decide,Tryz.func121.trans (congrArg some (by kernel_rfl))⟩
 f64:=Tryz.func122.trans (congrArg some (by kernel_rfl))
 f68:=⟨Tryz.f180.name,by decide,Tryz.func180.trans (congrArg some (by kernel_rfl))⟩
 f70:=⟨Tryz.f163.name,by decide,Tryz.func163.trans (congrArg some (by kernel_rfl))⟩
 f71:=⟨Tryz.f164.name,by decide,Tryz.func164.trans (congrArg some (by kernel_rfl))⟩
 f72:=⟨Tryz.f165.name,by decide,Tryz.func165.trans (congrArg some (by kernel_rfl))⟩
 f73:=⟨Tryz.f166.name,by decide,Tryz.func166.trans (congrArg some (by kernel_rfl))⟩
 f74:=⟨Tryz.f167.name,by decide,Tryz.func167.trans (congrArg some (by kernel_rfl))⟩
 f75:=⟨Tryz.f168.name,by decide,Tryz.func168.trans (congrArg some (by kernel_rfl))⟩
 f76:=⟨Tryz.f170.name,by decide,Tryz.func170.trans (congrArg some (by kernel_rfl))⟩
 f77:=⟨Tryz.f171.name,by decide,Tryz.func171.trans (congrArg some (by kernel_rfl))⟩
 f78:=Tryz.func172.trans (congrArg some (by kernel_rfl))
 f79:=Tryz.func173.trans (congrArg some (by kernel_rfl))
 f88:=⟨Tryz.f201.name,by decide,Tryz.func201.trans (congrArg some (by kernel_rfl))⟩
 f89:=Tryz.func202.trans (congrArg some (by kernel_rfl))
 f90:=Tryz.func203.trans (congrArg some (by kernel_rfl))
 f91:=⟨Tryz.f204.name,by decide,Tryz.func204.trans (congrArg some (by kernel_rfl))⟩
 f92:=⟨Tryz.f205.name,by decide,Tryz.func205.trans (congrArg some (by kernel_rfl))⟩
 f96:=⟨Tryz.f231.name,by decide,Tryz.func231.trans (congrArg some (by kernel_rfl))⟩
 t0:=Tryz.underlying0
 a0:=Tryz.isAgg0
 z0:=Tryz.sizeOf0
 v0:=Tryz.zeroValue0
 t3:=Tryz.underlying3
 a3:=Tryz.isAgg3
 z3:=Tryz.sizeOf3
 v3:=Tryz.zeroValue3
 t4:=Tryz.underlying4
 a4:=Tryz.isAgg4
 z4:=Tryz.sizeOf4
 v4:=Tryz.zeroValue4
 t5:=Tryz.underlying5
 a5:=Tryz.isAgg5
 z5:=Tryz.sizeOf5
 v5:=Tryz.zeroValue5
 t9:=Tryz.underlying9
 a9:=Tryz.isAgg9
 z9:=Tryz.sizeOf9
 v9:=Tryz.zeroValue9
 t22:=Tryz.underlying35
 a22:=Tryz.isAgg35
 z22:=Tryz.sizeOf35
 v22:=Tryz.zeroValue35
 t23:=Tryz.underlying2
 a23:=Tryz.isAgg2
 z23:=Tryz.sizeOf2
 v23:=Tryz.zeroValue2
 t44:=Tryz.underlying231
 a44:=Tryz.isAgg231
 z44:=Tryz.sizeOf231
 v44:=Tryz.zeroValue231
 t51:=Tryz.underlying101
 a51:=Tryz.isAgg101
 z51:=Tryz.sizeOf101
 v51:=Tryz.zeroValue101
 t60:=Tryz.underlying225
 a60:=Tryz.isAgg225
 z60:=Tryz.sizeOf225
 v60:=Tryz.zeroValue225
 t61:=Tryz.underlying226
 a61:=Tryz.isAgg226
 z61:=Tryz.sizeOf226
 v61:=Tryz.zeroValue226
 t67:=Tryz.underlying234
 a67:=Tryz.isAgg234
 z67:=Tryz.sizeOf234
 v67:=Tryz.zeroValue234
 t69:=Tryz.underlying42
 a69:=Tryz.isAgg42
 z69:=Tryz.sizeOf42
 v69:=Tryz.zeroValue42
 t75:=Tryz.underlying265
 a75:=Tryz.isAgg265
 z75:=Tryz.sizeOf265
 v75:=Tryz.zeroValue265
 t79:=Tryz.underlying269
 a79:=Tryz.isAgg269
 z79:=Tryz.sizeOf269
 v79:=Tryz.zeroValue269
 t83:=Tryz.underlying298
 a83:=Tryz.isAgg298
 z83:=Tryz.sizeOf298
 v83:=Tryz.zeroValue298
 t84:=Tryz.underlying299
 a84:=Tryz.isAgg299
 z84:=Tryz.sizeOf299
 v84:=Tryz.zeroValue299 }
open Go.RowKit Go.Lib Go.Sort in
theorem Tryz.slices_Sort_int(blk off cap:Nat)(zs:List Int)(w:World)(hH:Holds (Value.int .i64) w blk off zs.toArray)(hblk:blk<w.heap.size)(hsz:zs.length<4611686018427387904):
 Calls Tryz.prog 60 #[.slice (some ⟨blk,off,none⟩) zs.length cap] w fun e w'=>e = .returned (.tuple #[])/\∃ n os,w'=grow (putRow (Value.int .i64) (Sort.ahead w n) blk off (zs.mergeSort fun x y=>decide (x<=y)).toArray) os:=AnyG.slices_Sort_int Tryz.laysSlN53 blk off cap zs w hH hblk hsz
open Go.RowKit Go.Lib Go.Sort in
theorem Tryz.slices_Sort_int_none(p:Option Addr)(cap:Nat)(w:World):
 Calls Tryz.prog 60 #[.slice p 0 cap] w fun e w'=>e = .returned (.tuple #[])/\w'=w:=AnyG.slices_Sort_int_none Tryz.laysSlN53 p cap w
end Go.Proofs
