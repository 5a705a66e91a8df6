/- The library's contracts at this dump,in plain words,as the kit's lay-shelf and lay-plain write them. No condition of its own. -/
import Derived.Shelf.Strings.Trim
import Derived.Shelf.Small.Utf8
import Derived.Shelf.Small.Bits
import Derived.Shelf.Small.Strs
import Derived.Shelf.Strconv.Itoa0
import Derived.Shelf.Strings.Search1
import Derived.Shelf.Unicode.Decode
import Derived.Shelf.Strings.Runes
import Derived.Shelf.Strings.AsciiSet
import Derived.Shelf.Unicode.DecodeSlow
import Derived.Shelf.Unicode.DecodeAny
import Derived.Shelf.Unicode.DecodeLast
import Derived.Shelf.Slices.Turned
import Derived.Ground.SlgnProg
import Derived.Shelf.SlicesG.Clone
import Derived.Shelf.SlicesG.CompactI
import Derived.Shelf.SlicesG.SearchI
import Derived.Shelf.SlicesE.Clone
import Derived.Shelf.SortG.Plain
import Derived.Shelf.SortG.SortNone
import Derived.Test.YtdgabcjahjmdoaaGreatDoorProg
namespace Go.Proofs
open Go.Shelf
def Tryz.lays160_ren:Go.Shelf.Ren:=⟨fun | 160=>183 | 232=>236 | 231=>235 | 227=>237 | 234=>239 | 233=>238 | 236=>241 | 235=>240 | 228=>282 | 271=>285 | 151=>284 | 197=>283 | 120=>310 | 152=>309 | 260=>308 | 137=>184 | 119=>323 | 224=>324 | 225=>325 | 217=>242 | 266=>286 | n=>n,fun | 9=>9 | 4=>4 | 3=>3 | 5=>5 | 117=>319 | 116=>318 | 0=>0 | 124=>322 | 21=>21 | 105=>358 | 46=>247 | 119=>388 | 139=>391 | 138=>390 | n=>n,fun | 3=>1 | 4=>2 | n=>n⟩
theorem Tryz.lays160:Go.Proofs.Lays.n160 Tryz.prog Tryz.lays160_ren:={
 mixed:=by kernel_rfl
 f119:=Tryz.func323.trans (congrArg some (by kernel_rfl))
 f120:=Tryz.func310.trans (congrArg some (by kernel_rfl))
 f137:=Tryz.func184.trans (congrArg some (by kernel_rfl))
 f151:=Tryz.func284.trans (congrArg some (by kernel_rfl))
 f152:=Tryz.func309.trans (congrArg some (by kernel_rfl))
 f160:=Tryz.func183.trans (congrArg some (by kernel_rfl))
 f197:=Tryz.func283.trans (congrArg some (by kernel_rfl))
 f217:=Tryz.func242.trans (congrArg some (by kernel_rfl))
 f224:=Tryz.func324.trans (congrArg some (by kernel_rfl))
 f225:=Tryz.func325.trans (congrArg some (by kernel_rfl))
 f227:=Tryz.func237.trans (congrArg some (by kernel_rfl))
 f228:=Tryz.func282.trans (congrArg some (by kernel_rfl))
 f231:=Tryz.func235.trans (congrArg some (by kernel_rfl))
 f232:=Tryz.func236.trans (congrArg some (by kernel_rfl))
 f233:=Tryz.func238.trans (congrArg some (by kernel_rfl))
 f234:=Tryz.func239.trans (congrArg some (by kernel_rfl))
 f235:=Tryz.func240.trans (congrArg some (by kernel_rfl))
 f236:=Tryz.func241.trans (congrArg some (by kernel_rfl))
 f260:=Tryz.func308.trans (congrArg some (by kernel_rfl))
 f266:=Tryz.func286.trans (congrArg some (by kernel_rfl))
 f271:=Tryz.func285.trans (congrArg some (by kernel_rfl))
 t0:=Tryz.underlying0
 a0:=Tryz.isAgg0
 z0:=Tryz.sizeOf0
 v0:=Tryz.zeroValue0
 t3:=Tryz.underlying3
 a3:=Tryz.isAgg3
 z3:=Tryz.sizeOf3
 v3:=Tryz.zeroValue3
 t4:=Tryz.underlying4
 a4:=Tryz.isAgg4
 z4:=Tryz.sizeOf4
 v4:=Tryz.zeroValue4
 t5:=Tryz.underlying5
 a5:=Tryz.isAgg5
 z5:=Tryz.sizeOf5
 v5:=Tryz.zeroValue5
 t9:=Tryz.underlying9
 a9:=Tryz.isAgg9
 z9:=Tryz.sizeOf9
 v9:=Tryz.zeroValue9
 t21:=Tryz.underlying21
 a21:=Tryz.isAgg21
 z21:=Tryz.sizeOf21
 v21:=Tryz.zeroValue21
 t46:=Tryz.underlying247
 a46:=Tryz.isAgg247
 z46:=Tryz.sizeOf247
 v46:=Tryz.zeroValue247
 t105:=Tryz.underlying358
 a105:=Tryz.isAgg358
 z105:=Tryz.sizeOf358
 v105:=Tryz.zeroValue358
 t116:=Tryz.underlying318
 a116:=Tryz.isAgg318
 z116:=Tryz.sizeOf318
 t117:=Tryz.underlying319
 a117:=Tryz.isAgg319
 z117:=Tryz.sizeOf319
 v117:=Tryz.zeroValue319
 t119:=Tryz.underlying388
 a119:=Tryz.isAgg388
 z119:=Tryz.sizeOf388
 t124:=Tryz.underlying322
 a124:=Tryz.isAgg322
 z124:=Tryz.sizeOf322
 v124:=Tryz.zeroValue322
 t138:=Tryz.underlying390
 a138:=Tryz.isAgg390
 z138:=Tryz.sizeOf390
 v138:=Tryz.zeroValue390
 t139:=Tryz.underlying391
 a139:=Tryz.isAgg391
 z139:=Tryz.sizeOf391
 v139:=Tryz.zeroValue391
 g3:=by kernel_rfl
 g4:=by kernel_rfl }
def Tryz.lays137_ren:Go.Shelf.Ren:=⟨fun | 137=>184 | 217=>242 | 266=>286 | n=>n,fun | 9=>9 | 5=>5 | 3=>3 | n=>n,fun | n=>n⟩
theorem Tryz.lays137:Go.Proofs.Lays.n137 Tryz.prog Tryz.lays137_ren:={
 mixed:=by kernel_rfl
 f137:=Tryz.func184.trans (congrArg some (by kernel_rfl))
 f217:=Tryz.func242.trans (congrArg some (by kernel_rfl))
 f266:=Tryz.func286.trans (congrArg some (by kernel_rfl))
 t3:=Tryz.underlying3
 a3:=Tryz.isAgg3
 z3:=Tryz.sizeOf3
 v3:=Tryz.zeroValue3
 t5:=Tryz.underlying5
 a5:=Tryz.isAgg5
 z5:=Tryz.sizeOf5
 v5:=Tryz.zeroValue5
 t9:=Tryz.underlying9
 a9:=Tryz.isAgg9
 z9:=Tryz.sizeOf9
 v9:=Tryz.zeroValue9 }
open Go.RowKit in
theorem Tryz.strings_IndexByte(s:ByteArray)(c:Int)(w:World):
 Calls Tryz.prog 184 #[.string s,.int .u8 c] w fun e w'=>e = .returned (.int .i64 (Lib.indexByte s.data.toList c.toNat.toUInt8))/\w'=w:=Any.strings_IndexByte Tryz.lays137 s c w
def Tryz.laysSlN43_f110_ren:Go.Shelf.Ren:=⟨fun | 43=>110 | n=>n,fun | 22=>34 | 23=>2 | 3=>3 | 4=>4 | 0=>0 | n=>n,fun | n=>n⟩
theorem Tryz.laysSlN43_f110:Go.Proofs.SlLaysN.n43 Tryz.prog Tryz.laysSlN43_f110_ren:={
 mixed:=by kernel_rfl
 f43:=⟨Tryz.f110.name,by decide,Tryz.func110.trans (congrArg some (by kernel_rfl))⟩
 t0:=Tryz.underlying0
 a0:=Tryz.isAgg0
 z0:=Tryz.sizeOf0
 v0:=Tryz.zeroValue0
 t3:=Tryz.underlying3
 a3:=Tryz.isAgg3
 z3:=Tryz.sizeOf3
 v3:=Tryz.zeroValue3
 t4:=Tryz.underlying4
 a4:=Tryz.isAgg4
 z4:=Tryz.sizeOf4
 v4:=Tryz.zeroValue4
 t22:=Tryz.underlying34
 a22:=Tryz.isAgg34
 z22:=Tryz.sizeOf34
 v22:=Tryz.zeroValue34
 t23:=Tryz.underlying2
 a23:=Tryz.isAgg2
 z23:=Tryz.sizeOf2
 v23:=Tryz.zeroValue2
 i23:=by kernel_rfl }
open Go.RowKit Go.Lib Go.Sort in
theorem Tryz.slices_Compact_int(blk off cap:Nat)(zs:List Int)(w:World)(hH:Holds (Value.int .i64) w blk off zs.toArray)(hsz:zs.length<=9223372036854775807)(hcap:zs.length<=cap):
 Calls Tryz.prog 110 #[.slice (some ⟨blk,off,none⟩) zs.length cap] w fun e w'=>e = .returned (.slice (some ⟨blk,off,none⟩) (Lib.compact zs).length cap)/\∃ q,w'=putRow (Value.int .i64) (Sort.ahead w q) blk off (Lib.compact zs++List.replicate (zs.length - (Lib.compact zs).length) 0).toArray:=AnyG.slices_Compact_int Tryz.laysSlN43_f110 blk off cap zs w hH hsz hcap
theorem Tryz.slices_Compact_int_empty(a:Option Addr)(cap:Nat)(w:World):
 Calls Tryz.prog 110 #[.slice a 0 cap] w fun e w'=>e = .returned (.slice a 0 cap)/\w'=w:=AnyG.slices_Compact_int_empty Tryz.laysSlN43_f110 a cap w
def Tryz.laysSlN53_ren:Go.Shelf.Ren:=⟨fun | 53=>109 | 64=>167 | 63=>166 | 78=>221 | 79=>222 | 70=>212 | 71=>213 | 72=>214 | 73=>215 | 74=>216 | 75=>217 | 59=>218 | 76=>219 | 77=>220 | 88=>260 | 89=>261 | 90=>262 | 91=>263 | 92=>264 | 68=>265 | 96=>294 | n=>n,fun | 22=>34 | 23=>2 | 3=>3 | 51=>247 | 0=>0 | 67=>299 | 69=>301 | 4=>4 | 61=>292 | 60=>291 | 44=>296 | 5=>5 | 9=>9 | 75=>338 | 79=>342 | 83=>364 | 84=>365 | n=>n,fun | n=>n⟩
theorem Tryz.laysSlN53:Go.Proofs.SlLaysN.n53 Tryz.prog Tryz.laysSlN53_ren:={
 mixed:=by kernel_rfl
 f53:=⟨Tryz.f109.name,by decide,Tryz.func109.trans (congrArg some (by kernel_rfl))⟩
 f59:=⟨Tryz.f218.name,by decide,Tryz.func218.trans (congrArg some (by kernel_rfl))⟩
 f63:=⟨Tryz.f166.name,by decide,Tryz.func166.trans (congrArg some (by kernel_rfl))⟩
 f64:=Tryz.func167.trans (congrArg some (by kernel_rfl))
 f68:=⟨Tryz.f265.name,by decide,Tryz.func265.trans (congrArg some (by kernel_rfl))⟩
 f70:=⟨Tryz.f212.name,by decide,Tryz.func212.trans (congrArg some (by kernel_rfl))⟩
 f71:=⟨Tryz.f213.name,by decide,Tryz.func213.trans (congrArg some (by kernel_rfl))⟩
 f72:=⟨Tryz.f214.name,by decide,Tryz.func214.trans (congrArg some (by kernel_rfl))⟩
 f73:=⟨Tryz.f215.name,by decide,Tryz.func215.trans (congrArg some (by kernel_rfl))⟩
 f74:=⟨Tryz.f216.name,by decide,Tryz.func216.trans (congrArg some (by kernel_rfl))⟩
 f75:=⟨Tryz.f217.name,by decide,Tryz.func217.trans (congrArg some (by kernel_rfl))⟩
 f76:=⟨Tryz.f219.name,by decide,Tryz.func219.trans (congrArg some (by kernel_rfl))⟩
 f77:=⟨Tryz.f220.name,by decide,Tryz.func220.trans (congrArg some (by kernel_rfl))⟩
 f78:=Tryz.func221.trans (congrArg some (by kernel_rfl))
 f79:=Tryz.func222.trans (congrArg some (by kernel_rfl))
 f88:=⟨Tryz.f260.name,by decide,Tryz.func260.trans (congrArg some (by kernel_rfl))⟩
 f89:=Tryz.func261.trans (congrArg some (by kernel_rfl))
 f90:=Tryz.func262.trans (congrArg some (by kernel_rfl))
 f91:=⟨Tryz.f263.name,by decide,Tryz.func263.trans (congrArg some (by kernel_rfl))⟩
 f92:=⟨Tryz.f264.name,by decide,Tryz.func264.trans (congrArg some (by kernel_rfl))⟩
 f96:=⟨Tryz.f294.name,by decide,Tryz.func294.trans (congrArg some (by kernel_rfl))⟩
 t0:=Tryz.underlying0
 a0:=Tryz.isAgg0
 z0:=Tryz.sizeOf0
 v0:=Tryz.zeroValue0
 t3:=Tryz.underlying3
 a3:=Tryz.isAgg3
 z3:=Tryz.sizeOf3
 v3:=Tryz.zeroValue3
 t4:=Tryz.underlying4
 a4:=Tryz.isAgg4
 z4:=Tryz.sizeOf4
 v4:=Tryz.zeroValue4
 t5:=Tryz.underlying5
 a5:=Tryz.isAgg5
 z5:=Tryz.sizeOf5
 v5:=Tryz.zeroValue5
 t9:=Tryz.underlying9
 a9:=Tryz.isAgg9
 z9:=Tryz.sizeOf9
 v9:=Tryz.zeroValue9
 t22:=Tryz.underlying34
 a22:=Tryz.isAgg34
 z22:=Tryz.sizeOf34
 v22:=Tryz.zeroValue34
 t23:=Tryz.underlying2
 a23:=Tryz.isAgg2
 z23:=Tryz.sizeOf2
 v23:=Tryz.zeroValue2
 t44:=Tryz.underlying296
 a44:=Tryz.isAgg296
 z44:=Tryz.sizeOf296
 v44:=Tryz.zeroValue296
 t51:=Tryz.underlying247
 a51:=Tryz.isAgg247
 z51:=Tryz.sizeOf247
 v51:=Tryz.zeroValue247
 t60:=Tryz.underlying291
 a60:=Tryz.isAgg291
 z60:=Tryz.sizeOf291
 v60:=Tryz.zeroValue291
 t61:=Tryz.underlying292
 a61:=Tryz.isAgg292
 z61:=Tryz.sizeOf292
 v61:=Tryz.zeroValue292
 t67:=Tryz.underlying299
 a67:=Tryz.isAgg299
 z67:=Tryz.sizeOf299
 v67:=Tryz.zeroValue299
 t69:=Tryz.underlying301
 a69:=Tryz.isAgg301
 z69:=Tryz.sizeOf301
 v69:=Tryz.zeroValue301
 t75:=Tryz.underlying338
 a75:=Tryz.isAgg338
 z75:=Tryz.sizeOf338
 v75:=Tryz.zeroValue338
 t79:=Tryz.underlying342
 a79:=Tryz.isAgg342
 z79:=Tryz.sizeOf342
 v79:=Tryz.zeroValue342
 t83:=Tryz.underlying364
 a83:=Tryz.isAgg364
 z83:=Tryz.sizeOf364
 v83:=Tryz.zeroValue364
 t84:=Tryz.underlying365
 a84:=Tryz.isAgg365
 z84:=Tryz.sizeOf365
 v84:=Tryz.zeroValue365 }
open Go.RowKit Go.Lib Go.Sort in
theorem Tryz.slices_Sort_int(blk off cap:Nat)(zs:List Int)(w:World)(hH:Holds (Value.int .i64) w blk off zs.toArray)(hblk:blk<w.heap.size)(hsz:zs.length<4611686018427387904):
 Calls Tryz.prog 109 #[.slice (some ⟨blk,off,none⟩) zs.length cap] w fun e w'=>e = .returned (.tuple #[])/\∃ n os,w'=grow (putRow (Value.int .i64) (Sort.ahead w n) blk off (zs.mergeSort fun x y=>decide (x<=y)).toArray) os:=AnyG.slices_Sort_int Tryz.laysSlN53 blk off cap zs w hH hblk hsz
theorem Tryz.slices_Sort_int_none(p:Option Addr)(cap:Nat)(w:World):
 Calls Tryz.prog 109 #[.slice p 0 cap] w fun e w'=>e = .returned (.tuple #[])/\w'=w:=AnyG.slices_Sort_int_none Tryz.laysSlN53 p cap w
end Go.Proofs
