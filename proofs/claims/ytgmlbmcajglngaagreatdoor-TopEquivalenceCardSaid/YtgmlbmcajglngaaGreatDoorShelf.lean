
import Derived.Shelf.SlSortCmp.NoneTotal
import Derived.Ground.SlsfProg
import Derived.Shelf.Small.Bits
import Derived.Shelf.Small.Wraps
import Derived.Shelf.Strconv.Itoa0
import Derived.Shelf.Strings.Search1
import Derived.Shelf.Strings.Search2
import Derived.Shelf.Strings.Search3
import Derived.Shelf.LaysM
import Derived.Shelf.Strings.Shaped
import Derived.Shelf.Sort.Plain
import Derived.Shelf.Bits.Mul64
import Derived.Shelf.Slices.Turned
import Derived.Ground.Names2Prog
import Derived.Shelf.Slices.Clone
import Derived.Shelf.Slices.CompactI
import Derived.Shelf.Slices.SearchI
import Derived.Shelf.Slices.Cells
import Derived.Shelf.Slices.In.SortNone
import Derived.Shelf.Slices.Empties
import Derived.Ground.SlgnProg
import Derived.Shelf.SlicesE.Clone
import Derived.Test.YtgmlbmcajglngaaGreatDoorProg
namespace Go.Proofs
open Go.Shelf Tryz
theorem sK{o:Option Func}{f g:Func}(h:o=some f)(e:f=g:=by kernel_rfl):o=some g:=h.trans (congrArg some e)
def Tryz.lays144_ren : Ren := ⟨fun | 144 => 192 | 143 => 220 | 219 => 240 | 217 => 268 | 225 => 269 | 224 => 270 | 267 => 271 | 266 => 277 | 314 => 278 | n => n, fun | 9 => 9 | 4 => 4 | 3 => 3 | 5 => 5 | 46 => 155 | 146 => 355 | 51 => 216 | n => n, fun | 1 => 3 | n => n⟩
theorem Tryz.lays144 : Lays.n144 Tryz.prog Tryz.lays144_ren := {mixed:=by kernel_rfl,f143:=sK func220,f144:=sK func192,f217:=sK func268,f219:=sK func240,f224:=sK func270,f225:=sK func269,f266:=sK func277,f267:=sK func271,f314:=sK func278,t3:=underlying3,a3:=isAgg3,z3:=sizeOf3,v3:=zeroValue3,t4:=underlying4,a4:=isAgg4,z4:=sizeOf4,v4:=zeroValue4,t5:=underlying5,a5:=isAgg5,z5:=sizeOf5,v5:=zeroValue5,t9:=underlying9,a9:=isAgg9,z9:=sizeOf9,v9:=zeroValue9,t46:=underlying155,a46:=isAgg155,z46:=sizeOf155,v46:=zeroValue155,t51:=underlying216,a51:=isAgg216,z51:=sizeOf216,v51:=zeroValue216,t146:=underlying355,a146:=isAgg355,z146:=sizeOf355,v146:=zeroValue355,g1:=by kernel_rfl }
open Go.RowKit Go.Lib in
theorem Tryz.strings_Contains_one (s : ByteArray) (c : UInt8) (w : World) :
    Calls Tryz.prog 192 #[.string s, .string ⟨#[c]⟩] w fun e w' => e = .returned (.bool (decide (0 ≤ Lib.indexByte s.data.toList c))) ∧ w' = w := Any.strings_Contains_one Tryz.lays144 s c w
def Tryz.lays189_ren : Ren := ⟨fun | 189 => 39 | 125 => 61 | 257 => 60 | 128 => 115 | 129 => 116 | 294 => 106 | 295 => 107 | 296 => 108 | 297 => 109 | 298 => 110 | 299 => 111 | 216 => 112 | 300 => 113 | 301 => 114 | 328 => 161 | 329 => 162 | 330 => 163 | 331 => 164 | 332 => 165 | 215 => 166 | 343 => 202 | n => n, fun | 28 => 33 | 3 => 3 | 46 => 155 | 0 => 0 | 51 => 216 | 53 => 218 | 4 => 4 | 183 => 209 | 182 => 208 | 131 => 169 | 5 => 5 | 9 => 9 | 218 => 270 | 222 => 274 | 228 => 304 | 229 => 131 | n => n, fun | n => n⟩
theorem Tryz.lays189 : Lays.n189 Tryz.prog Tryz.lays189_ren := {mixed:=by kernel_rfl,f125:=sK func61,f128:=sK func115,f129:=sK func116,f189:=sK func39,f215:=sK func166,f216:=sK func112,f257:=sK func60,f294:=sK func106,f295:=sK func107,f296:=sK func108,f297:=sK func109,f298:=sK func110,f299:=sK func111,f300:=sK func113,f301:=sK func114,f328:=sK func161,f329:=sK func162,f330:=sK func163,f331:=sK func164,f332:=sK func165,f343:=sK func202,t0:=underlying0,a0:=isAgg0,z0:=sizeOf0,v0:=zeroValue0,t3:=underlying3,a3:=isAgg3,z3:=sizeOf3,v3:=zeroValue3,t4:=underlying4,a4:=isAgg4,z4:=sizeOf4,v4:=zeroValue4,t5:=underlying5,a5:=isAgg5,z5:=sizeOf5,v5:=zeroValue5,t9:=underlying9,a9:=isAgg9,z9:=sizeOf9,v9:=zeroValue9,t28:=underlying33,a28:=isAgg33,z28:=sizeOf33,v28:=zeroValue33,t46:=underlying155,a46:=isAgg155,z46:=sizeOf155,v46:=zeroValue155,t51:=underlying216,a51:=isAgg216,z51:=sizeOf216,v51:=zeroValue216,t53:=underlying218,a53:=isAgg218,z53:=sizeOf218,v53:=zeroValue218,t131:=underlying169,a131:=isAgg169,z131:=sizeOf169,v131:=zeroValue169,t182:=underlying208,a182:=isAgg208,z182:=sizeOf208,v182:=zeroValue208,t183:=underlying209,a183:=isAgg209,z183:=sizeOf209,v183:=zeroValue209,t218:=underlying270,a218:=isAgg270,z218:=sizeOf270,v218:=zeroValue270,t222:=underlying274,a222:=isAgg274,z222:=sizeOf274,v222:=zeroValue274,t228:=underlying304,a228:=isAgg304,z228:=sizeOf304,v228:=zeroValue304,t229:=underlying131,a229:=isAgg131,z229:=sizeOf131,v229:=zeroValue131 }
open Go.Sort Go.RowKit in
theorem Tryz.slices_Sort_int (blk off cap : Nat) (zs : List Int) (w : World) (hH : Holds (Value.int .i64) w blk off zs.toArray) (hblk : blk < w.heap.size) (hsz : zs.length < 4611686018427387904) :
    Calls Tryz.prog 39 #[.slice (some ⟨blk, off, none⟩) zs.length cap] w fun e w' =>
      e = .returned (.tuple #[]) ∧ ∃ n os, w' = grow (putRow (Value.int .i64) (Sort.ahead w n) blk off (zs.mergeSort fun x y => decide (x ≤ y)).toArray) os := Any.slices_Sort_int Tryz.lays189 blk off cap zs w hH hblk hsz
def Tryz.lays264_ren : Ren := ⟨fun | 264 => 225 | n => n, fun | 53 => 218 | 46 => 155 | n => n, fun | n => n⟩
theorem Tryz.lays264 : Lays.n264 Tryz.prog Tryz.lays264_ren := {mixed:=by kernel_rfl,f264:=sK func225,t46:=underlying155,a46:=isAgg155,z46:=sizeOf155,v46:=zeroValue155,t53:=underlying218,a53:=isAgg218,z53:=sizeOf218,v53:=zeroValue218 }
open Go.RowKit Go.Lib in
theorem Tryz.bits_Mul64 (x y : Nat) (hx : x < 18446744073709551616) (hy : y < 18446744073709551616) (w : World) :
    Calls Tryz.prog 225 #[.int .u64 x, .int .u64 y] w fun e w' => e = .returned (.tuple #[.int .u64 ((x * y / 18446744073709551616 : Nat) : Int), .int .u64 ((x * y % 18446744073709551616 : Nat) : Int)]) ∧ w' = w := Any.bits_Mul64 Tryz.lays264 x y hx hy w
def Tryz.laysNm220_ren : Ren := ⟨fun | 20 => 184 | n => n, fun | 22 => 33 | 3 => 3 | 4 => 4 | 0 => 0 | n => n, fun | n => n⟩
theorem Tryz.laysNm220 : Lays2.n20 Tryz.prog Tryz.laysNm220_ren := {mixed:=by kernel_rfl,f20:=sK func184,t0:=underlying0,a0:=isAgg0,z0:=sizeOf0,v0:=zeroValue0,t3:=underlying3,a3:=isAgg3,z3:=sizeOf3,v3:=zeroValue3,t4:=underlying4,a4:=isAgg4,z4:=sizeOf4,v4:=zeroValue4,t22:=underlying33,a22:=isAgg33,z22:=sizeOf33,v22:=zeroValue33,i3:=by kernel_rfl }
open Go.RowKit Go.Lib Go.Sort in
theorem Tryz.slices_Compact_int (blk off cap : Nat) (zs : List Int) (w : World) (hH : Holds (Value.int .i64) w blk off zs.toArray) (hsz : zs.length ≤ 9223372036854775807) (hcap : zs.length ≤ cap) :
    Calls Tryz.prog 184 #[.slice (some ⟨blk, off, none⟩) zs.length cap] w fun e w' => e = .returned (.slice (some ⟨blk, off, none⟩) (Lib.compact zs).length cap) ∧ ∃ q, w' = putRow (Value.int .i64) (Sort.ahead w q) blk off (Lib.compact zs ++ List.replicate (zs.length - (Lib.compact zs).length) 0).toArray := Any.slices_Compact_int Tryz.laysNm220 blk off cap zs w hH hsz hcap
open Go.RowKit Go.Lib Go.Sort in
theorem Tryz.slices_Compact_int_empty (a : Option Addr) (cap : Nat) (w : World) :
    Calls Tryz.prog 184 #[.slice a 0 cap] w fun e w' => e = .returned (.slice a 0 cap) ∧ w' = w := Any.slices_Compact_int_empty Tryz.laysNm220 a cap w
open Go.RowKit Go.Sort in
theorem Tryz.slices_Sort_int_none (p : Option Addr) (cap : Nat) (w : World) :
    Calls Tryz.prog 39 #[.slice p 0 cap] w fun e w' => e = .returned (.tuple #[]) ∧ w' = w := Any.slices_Sort_int_none Tryz.lays189 p cap w
def Tryz.laysF6_ren : Ren := ⟨fun | 6 => 215 | 15 => 61 | 14 => 237 | 28 => 115 | 29 => 116 | 20 => 260 | 21 => 261 | 22 => 262 | 23 => 263 | 24 => 264 | 25 => 265 | 26 => 266 | 27 => 267 | 46 => 274 | 47 => 162 | 48 => 163 | 49 => 275 | 50 => 276 | 57 => 279 | n => n, fun | 22 => 243 | 24 => 246 | 25 => 319 | 3 => 3 | 39 => 155 | 0 => 0 | 53 => 216 | 55 => 218 | 4 => 4 | 46 => 209 | 45 => 208 | 50 => 169 | 5 => 5 | 9 => 9 | 66 => 270 | 70 => 274 | 76 => 304 | 77 => 131 | n => n, fun | n => n⟩
theorem Tryz.laysF6 : SlLaysF0.n6 Tryz.prog Tryz.laysF6_ren := {mixed:=by kernel_rfl,f6:=⟨f215.name,by decide,sK func215⟩,f14:=⟨f237.name,by decide,sK func237⟩,f15:=sK func61,f20:=⟨f260.name,by decide,sK func260⟩,f21:=⟨f261.name,by decide,sK func261⟩,f22:=⟨f262.name,by decide,sK func262⟩,f23:=⟨f263.name,by decide,sK func263⟩,f24:=⟨f264.name,by decide,sK func264⟩,f25:=⟨f265.name,by decide,sK func265⟩,f26:=⟨f266.name,by decide,sK func266⟩,f27:=⟨f267.name,by decide,sK func267⟩,f28:=sK func115,f29:=sK func116,f46:=⟨f274.name,by decide,sK func274⟩,f47:=sK func162,f48:=sK func163,f49:=⟨f275.name,by decide,sK func275⟩,f50:=⟨f276.name,by decide,sK func276⟩,f57:=⟨f279.name,by decide,sK func279⟩,t0:=underlying0,a0:=isAgg0,z0:=sizeOf0,v0:=zeroValue0,t3:=underlying3,a3:=isAgg3,z3:=sizeOf3,v3:=zeroValue3,t4:=underlying4,a4:=isAgg4,z4:=sizeOf4,v4:=zeroValue4,t5:=underlying5,a5:=isAgg5,z5:=sizeOf5,v5:=zeroValue5,t9:=underlying9,a9:=isAgg9,z9:=sizeOf9,v9:=zeroValue9,t22:=underlying243,a22:=isAgg243,z22:=sizeOf243,v22:=zeroValue243,t25:=underlying319,a25:=isAgg319,z25:=sizeOf319,v25:=zeroValue319,t39:=underlying155,a39:=isAgg155,z39:=sizeOf155,v39:=zeroValue155,t45:=underlying208,a45:=isAgg208,z45:=sizeOf208,v45:=zeroValue208,t46:=underlying209,a46:=isAgg209,z46:=sizeOf209,v46:=zeroValue209,t50:=underlying169,a50:=isAgg169,z50:=sizeOf169,v50:=zeroValue169,t53:=underlying216,a53:=isAgg216,z53:=sizeOf216,v53:=zeroValue216,t55:=underlying218,a55:=isAgg218,z55:=sizeOf218,v55:=zeroValue218,t66:=underlying270,a66:=isAgg270,z66:=sizeOf270,v66:=zeroValue270,t70:=underlying274,a70:=isAgg274,z70:=sizeOf274,v70:=zeroValue274,t76:=underlying304,a76:=isAgg304,z76:=sizeOf304,v76:=zeroValue304,t77:=underlying131,a77:=isAgg131,z77:=sizeOf131,v77:=zeroValue131 }
end Go.Proofs
