/- The library's contracts at this dump, in plain words, as the kit's lay-shelf and lay-plain write them. No condition of its own. -/
import Derived.Shelf.Strings.Trim
import Derived.Shelf.Small.Utf8
import Derived.Shelf.Small.Strs
import Derived.Shelf.Strconv.Itoa0
import Derived.Shelf.Strings.Search1
import Derived.Shelf.Strings.Runes
import Derived.Shelf.Strings.AsciiSet
import Derived.Shelf.Unicode.DecodeSlow
import Derived.Ground.SlgnProg
import Derived.Shelf.SlicesG.CompactI
import Derived.Shelf.SortG.Plain
import Derived.Shelf.SortG.SortNone
import Derived.Test.YtdbmhfpphobmpaaGreatDoorProg
namespace Go.Proofs
open Go.Shelf
def Tryz.lays160_ren : Go.Shelf.Ren := ⟨fun | 160 => 244 | 232 => 256 | 231 => 255 | 227 => 257 | 234 => 259 | 233 => 258 | 236 => 261 | 235 => 260 | 228 => 270 | 271 => 273 | 151 => 272 | 197 => 271 | 120 => 284 | 152 => 283 | 260 => 282 | 137 => 245 | 119 => 287 | 224 => 288 | 225 => 289 | 217 => 262 | 266 => 274 | n => n, fun | 9 => 9 | 4 => 4 | 3 => 3 | 5 => 5 | 117 => 333 | 116 => 332 | 0 => 0 | 124 => 336 | 21 => 21 | 105 => 340 | 46 => 195 | 119 => 349 | 139 => 352 | 138 => 351 | n => n, fun | 3 => 1 | 4 => 2 | n => n⟩
theorem Tryz.lays160 : Go.Proofs.Lays.n160 Tryz.prog Tryz.lays160_ren := {
 mixed := by kernel_rfl
 f119 := Tryz.func287.trans (congrArg some (by kernel_rfl))
 f120 := Tryz.func284.trans (congrArg some (by kernel_rfl))
 f137 := Tryz.func245.trans (congrArg some (by kernel_rfl))
 f151 := Tryz.func272.trans (congrArg some (by kernel_rfl))
 f152 := Tryz.func283.trans (congrArg some (by kernel_rfl))
 f160 := Tryz.func244.trans (congrArg some (by kernel_rfl))
 f197 := Tryz.func271.trans (congrArg some (by kernel_rfl))
 f217 := Tryz.func262.trans (congrArg some (by kernel_rfl))
 f224 := Tryz.func288.trans (congrArg some (by kernel_rfl))
 f225 := Tryz.func289.trans (congrArg some (by kernel_rfl))
 f227 := Tryz.func257.trans (congrArg some (by kernel_rfl))
 f228 := Tryz.func270.trans (congrArg some (by kernel_rfl))
 f231 := Tryz.func255.trans (congrArg some (by kernel_rfl))
 f232 := Tryz.func256.trans (congrArg some (by kernel_rfl))
 f233 := Tryz.func258.trans (congrArg some (by kernel_rfl))
 f234 := Tryz.func259.trans (congrArg some (by kernel_rfl))
 f235 := Tryz.func260.trans (congrArg some (by kernel_rfl))
 f236 := Tryz.func261.trans (congrArg some (by kernel_rfl))
 f260 := Tryz.func282.trans (congrArg some (by kernel_rfl))
 f266 := Tryz.func274.trans (congrArg some (by kernel_rfl))
 f271 := Tryz.func273.trans (congrArg some (by kernel_rfl))
 t0 := Tryz.underlying0
 a0 := Tryz.isAgg0
 z0 := Tryz.sizeOf0
 v0 := Tryz.zeroValue0
 t3 := Tryz.underlying3
 a3 := Tryz.isAgg3
 z3 := Tryz.sizeOf3
 v3 := Tryz.zeroValue3
 t4 := Tryz.underlying4
 a4 := Tryz.isAgg4
 z4 := Tryz.sizeOf4
 v4 := Tryz.zeroValue4
 t5 := Tryz.underlying5
 a5 := Tryz.isAgg5
 z5 := Tryz.sizeOf5
 v5 := Tryz.zeroValue5
 t9 := Tryz.underlying9
 a9 := Tryz.isAgg9
 z9 := Tryz.sizeOf9
 v9 := Tryz.zeroValue9
 t21 := Tryz.underlying21
 a21 := Tryz.isAgg21
 z21 := Tryz.sizeOf21
 v21 := Tryz.zeroValue21
 t46 := Tryz.underlying195
 a46 := Tryz.isAgg195
 z46 := Tryz.sizeOf195
 v46 := Tryz.zeroValue195
 t105 := Tryz.underlying340
 a105 := Tryz.isAgg340
 z105 := Tryz.sizeOf340
 v105 := Tryz.zeroValue340
 t116 := Tryz.underlying332
 a116 := Tryz.isAgg332
 z116 := Tryz.sizeOf332
 t117 := Tryz.underlying333
 a117 := Tryz.isAgg333
 z117 := Tryz.sizeOf333
 v117 := Tryz.zeroValue333
 t119 := Tryz.underlying349
 a119 := Tryz.isAgg349
 z119 := Tryz.sizeOf349
 t124 := Tryz.underlying336
 a124 := Tryz.isAgg336
 z124 := Tryz.sizeOf336
 v124 := Tryz.zeroValue336
 t138 := Tryz.underlying351
 a138 := Tryz.isAgg351
 z138 := Tryz.sizeOf351
 v138 := Tryz.zeroValue351
 t139 := Tryz.underlying352
 a139 := Tryz.isAgg352
 z139 := Tryz.sizeOf352
 v139 := Tryz.zeroValue352
 g3 := by kernel_rfl
 g4 := by kernel_rfl }
def Tryz.lays137_ren : Go.Shelf.Ren := ⟨fun | 137 => 245 | 217 => 262 | 266 => 274 | n => n, fun | 9 => 9 | 5 => 5 | 3 => 3 | n => n, fun | n => n⟩
theorem Tryz.lays137 : Go.Proofs.Lays.n137 Tryz.prog Tryz.lays137_ren := {
 mixed := by kernel_rfl
 f137 := Tryz.func245.trans (congrArg some (by kernel_rfl))
 f217 := Tryz.func262.trans (congrArg some (by kernel_rfl))
 f266 := Tryz.func274.trans (congrArg some (by kernel_rfl))
 t3 := Tryz.underlying3
 a3 := Tryz.isAgg3
 z3 := Tryz.sizeOf3
 v3 := Tryz.zeroValue3
 t5 := Tryz.underlying5
 a5 := Tryz.isAgg5
 z5 := Tryz.sizeOf5
 v5 := Tryz.zeroValue5
 t9 := Tryz.underlying9
 a9 := Tryz.isAgg9
 z9 := Tryz.sizeOf9
 v9 := Tryz.zeroValue9 }
open Go.RowKit in
theorem Tryz.strings_IndexByte (s : ByteArray) (c : Int) (w : World) :
 Calls Tryz.prog 245 #[.string s, .int .u8 c] w fun e w' => e = .returned (.int .i64 (Lib.indexByte s.data.toList c.toNat.toUInt8)) ∧ w' = w := Any.strings_IndexByte Tryz.lays137 s c w
def Tryz.laysSlN43_f73_ren : Go.Shelf.Ren := ⟨fun | 43 => 73 | n => n, fun | 22 => 33 | 23 => 2 | 3 => 3 | 4 => 4 | 0 => 0 | n => n, fun | n => n⟩
theorem Tryz.laysSlN43_f73 : Go.Proofs.SlLaysN.n43 Tryz.prog Tryz.laysSlN43_f73_ren := {
 mixed := by kernel_rfl
 f43 := ⟨Tryz.f73.name, by decide, Tryz.func73.trans (congrArg some (by kernel_rfl))⟩
 t0 := Tryz.underlying0
 a0 := Tryz.isAgg0
 z0 := Tryz.sizeOf0
 v0 := Tryz.zeroValue0
 t3 := Tryz.underlying3
 a3 := Tryz.isAgg3
 z3 := Tryz.sizeOf3
 v3 := Tryz.zeroValue3
 t4 := Tryz.underlying4
 a4 := Tryz.isAgg4
 z4 := Tryz.sizeOf4
 v4 := Tryz.zeroValue4
 t22 := Tryz.underlying33
 a22 := Tryz.isAgg33
 z22 := Tryz.sizeOf33
 v22 := Tryz.zeroValue33
 t23 := Tryz.underlying2
 a23 := Tryz.isAgg2
 z23 := Tryz.sizeOf2
 v23 := Tryz.zeroValue2
 i23 := by kernel_rfl }
open Go.RowKit Go.Lib Go.Sort in
theorem Tryz.slices_Compact_int (blk off cap : Nat) (zs : List Int) (w : World) (hH : Holds (Value.int .i64) w blk off zs.toArray) (hsz : zs.length ≤ 9223372036854775807) (hcap : zs.length ≤ cap) :
 Calls Tryz.prog 73 #[.slice (some ⟨blk, off, none⟩) zs.length cap] w fun e w' => e = .returned (.slice (some ⟨blk, off, none⟩) (Lib.compact zs).length cap) ∧ ∃ q, w' = putRow (Value.int .i64) (Sort.ahead w q) blk off (Lib.compact zs ++ List.replicate (zs.length - (Lib.compact zs).length) 0).toArray := AnyG.slices_Compact_int Tryz.laysSlN43_f73 blk off cap zs w hH hsz hcap
open Go.RowKit Go.Lib Go.Sort in
theorem Tryz.slices_Compact_int_empty (a : Option Addr) (cap : Nat) (w : World) :
 Calls Tryz.prog 73 #[.slice a 0 cap] w fun e w' => e = .returned (.slice a 0 cap) ∧ w' = w := AnyG.slices_Compact_int_empty Tryz.laysSlN43_f73 a cap w
def Tryz.laysSlN53_ren : Go.Shelf.Ren := ⟨fun | 53 => 72 | 64 => 136 | 63 => 135 | 78 => 185 | 79 => 186 | 70 => 176 | 71 => 177 | 72 => 178 | 73 => 179 | 74 => 180 | 75 => 181 | 59 => 182 | 76 => 183 | 77 => 184 | 88 => 208 | 89 => 209 | 90 => 210 | 91 => 211 | 92 => 212 | 68 => 213 | 96 => 229 | n => n, fun | 22 => 33 | 23 => 2 | 3 => 3 | 51 => 195 | 0 => 0 | 67 => 255 | 69 => 257 | 4 => 4 | 61 => 247 | 60 => 246 | 44 => 252 | 5 => 5 | 9 => 9 | 75 => 282 | 79 => 286 | 83 => 306 | 84 => 307 | n => n, fun | n => n⟩
theorem Tryz.laysSlN53 : Go.Proofs.SlLaysN.n53 Tryz.prog Tryz.laysSlN53_ren := {
 mixed := by kernel_rfl
 f53 := ⟨Tryz.f72.name, by decide, Tryz.func72.trans (congrArg some (by kernel_rfl))⟩
 f59 := ⟨Tryz.f182.name, by decide, Tryz.func182.trans (congrArg some (by kernel_rfl))⟩
 f63 := ⟨Tryz.f135.name, by decide, Tryz.func135.trans (congrArg some (by kernel_rfl))⟩
 f64 := Tryz.func136.trans (congrArg some (by kernel_rfl))
 f68 := ⟨Tryz.f213.name, by decide, Tryz.func213.trans (congrArg some (by kernel_rfl))⟩
 f70 := ⟨Tryz.f176.name, by decide, Tryz.func176.trans (congrArg some (by kernel_rfl))⟩
 f71 := ⟨Tryz.f177.name, by decide, Tryz.func177.trans (congrArg some (by kernel_rfl))⟩
 f72 := ⟨Tryz.f178.name, by decide, Tryz.func178.trans (congrArg some (by kernel_rfl))⟩
 f73 := ⟨Tryz.f179.name, by decide, Tryz.func179.trans (congrArg some (by kernel_rfl))⟩
 f74 := ⟨Tryz.f180.name, by decide, Tryz.func180.trans (congrArg some (by kernel_rfl))⟩
 f75 := ⟨Tryz.f181.name, by decide, Tryz.func181.trans (congrArg some (by kernel_rfl))⟩
 f76 := ⟨Tryz.f183.name, by decide, Tryz.func183.trans (congrArg some (by kernel_rfl))⟩
 f77 := ⟨Tryz.f184.name, by decide, Tryz.func184.trans (congrArg some (by kernel_rfl))⟩
 f78 := Tryz.func185.trans (congrArg some (by kernel_rfl))
 f79 := Tryz.func186.trans (congrArg some (by kernel_rfl))
 f88 := ⟨Tryz.f208.name, by decide, Tryz.func208.trans (congrArg some (by kernel_rfl))⟩
 f89 := Tryz.func209.trans (congrArg some (by kernel_rfl))
 f90 := Tryz.func210.trans (congrArg some (by kernel_rfl))
 f91 := ⟨Tryz.f211.name, by decide, Tryz.func211.trans (congrArg some (by kernel_rfl))⟩
 f92 := ⟨Tryz.f212.name, by decide, Tryz.func212.trans (congrArg some (by kernel_rfl))⟩
 f96 := ⟨Tryz.f229.name, by decide, Tryz.func229.trans (congrArg some (by kernel_rfl))⟩
 t0 := Tryz.underlying0
 a0 := Tryz.isAgg0
 z0 := Tryz.sizeOf0
 v0 := Tryz.zeroValue0
 t3 := Tryz.underlying3
 a3 := Tryz.isAgg3
 z3 := Tryz.sizeOf3
 v3 := Tryz.zeroValue3
 t4 := Tryz.underlying4
 a4 := Tryz.isAgg4
 z4 := Tryz.sizeOf4
 v4 := Tryz.zeroValue4
 t5 := Tryz.underlying5
 a5 := Tryz.isAgg5
 z5 := Tryz.sizeOf5
 v5 := Tryz.zeroValue5
 t9 := Tryz.underlying9
 a9 := Tryz.isAgg9
 z9 := Tryz.sizeOf9
 v9 := Tryz.zeroValue9
 t22 := Tryz.underlying33
 a22 := Tryz.isAgg33
 z22 := Tryz.sizeOf33
 v22 := Tryz.zeroValue33
 t23 := Tryz.underlying2
 a23 := Tryz.isAgg2
 z23 := Tryz.sizeOf2
 v23 := Tryz.zeroValue2
 t44 := Tryz.underlying252
 a44 := Tryz.isAgg252
 z44 := Tryz.sizeOf252
 v44 := Tryz.zeroValue252
 t51 := Tryz.underlying195
 a51 := Tryz.isAgg195
 z51 := Tryz.sizeOf195
 v51 := Tryz.zeroValue195
 t60 := Tryz.underlying246
 a60 := Tryz.isAgg246
 z60 := Tryz.sizeOf246
 v60 := Tryz.zeroValue246
 t61 := Tryz.underlying247
 a61 := Tryz.isAgg247
 z61 := Tryz.sizeOf247
 v61 := Tryz.zeroValue247
 t67 := Tryz.underlying255
 a67 := Tryz.isAgg255
 z67 := Tryz.sizeOf255
 v67 := Tryz.zeroValue255
 t69 := Tryz.underlying257
 a69 := Tryz.isAgg257
 z69 := Tryz.sizeOf257
 v69 := Tryz.zeroValue257
 t75 := Tryz.underlying282
 a75 := Tryz.isAgg282
 z75 := Tryz.sizeOf282
 v75 := Tryz.zeroValue282
 t79 := Tryz.underlying286
 a79 := Tryz.isAgg286
 z79 := Tryz.sizeOf286
 v79 := Tryz.zeroValue286
 t83 := Tryz.underlying306
 a83 := Tryz.isAgg306
 z83 := Tryz.sizeOf306
 v83 := Tryz.zeroValue306
 t84 := Tryz.underlying307
 a84 := Tryz.isAgg307
 z84 := Tryz.sizeOf307
 v84 := Tryz.zeroValue307 }
open Go.RowKit Go.Lib Go.Sort in
theorem Tryz.slices_Sort_int (blk off cap : Nat) (zs : List Int) (w : World) (hH : Holds (Value.int .i64) w blk off zs.toArray) (hblk : blk < w.heap.size) (hsz : zs.length < 4611686018427387904) :
 Calls Tryz.prog 72 #[.slice (some ⟨blk, off, none⟩) zs.length cap] w fun e w' => e = .returned (.tuple #[]) ∧ ∃ n os, w' = grow (putRow (Value.int .i64) (Sort.ahead w n) blk off (zs.mergeSort fun x y => decide (x ≤ y)).toArray) os := AnyG.slices_Sort_int Tryz.laysSlN53 blk off cap zs w hH hblk hsz
open Go.RowKit Go.Lib Go.Sort in
theorem Tryz.slices_Sort_int_none (p : Option Addr) (cap : Nat) (w : World) :
 Calls Tryz.prog 72 #[.slice p 0 cap] w fun e w' => e = .returned (.tuple #[]) ∧ w' = w := AnyG.slices_Sort_int_none Tryz.laysSlN53 p cap w
end Go.Proofs
