/-
  Contracts of the library functions that the law reaches.
-/
import Derived.Shelf.Strings.Builder1
import Derived.Shelf.Strings.Builder2
import Derived.Shelf.Strings.Trim
import Derived.Shelf.Small.Utf8
import Derived.Shelf.Small.Strs
import Derived.Shelf.Small.Wraps
import Derived.Shelf.Strings.BuilderF
import Derived.Shelf.Strings.BuilderK
import Derived.Shelf.Strings.BuilderRune
import Derived.Shelf.Utf8.RuneCount
import Derived.Shelf.Strings.Builder2Cap
import Derived.Shelf.Strconv.Atoi
import Derived.Shelf.Strconv.Itoa0
import Derived.Shelf.Strconv.Itoa1
import Derived.Shelf.LaysM
import Derived.Shelf.Strconv.Itoa2
import Derived.Shelf.Strconv.Itoa3
import Derived.Shelf.Strings.Search1
import Derived.Shelf.Strings.Search2
import Derived.Shelf.Strings.Search3
import Derived.Shelf.Strings.Cut
import Derived.Shelf.Strings.Count
import Derived.Shelf.Strings.Shaped
import Derived.Shelf.GgClosure.StringsIndexFunc
import Derived.Shelf.Strings.Prefix
import Derived.Shelf.Strings.Split
import Derived.Shelf.Strings.Fields
import Derived.Shelf.Unicode.Latin
import Derived.Shelf.Unicode.Decode
import Derived.Shelf.Strings.Runes
import Derived.Shelf.Strings.RuneCount
import Derived.Shelf.Strings.IndexAny
import Derived.Shelf.Strings.AsciiSet
import Derived.Shelf.Strings.IndexAnyAll
import Derived.Shelf.Strings.Explode
import Derived.Shelf.Bits.Mul64
import Derived.Shelf.Strings.Repeat
import Derived.Shelf.Unicode.DecodeSlow
import Derived.Shelf.Unicode.DecodeAny
import Derived.Shelf.Unicode.Is16White
import Derived.Shelf.Unicode.IsSpaceAny
import Derived.Shelf.Unicode.DecodeLast
import Derived.Shelf.Strings.MapAny
import Derived.Shelf.Unicode.Is16Any
import Derived.Shelf.Unicode.Is32Any
import Derived.Shelf.Unicode.ExclAny
import Derived.Shelf.Strings.BuilderCap
import Derived.Shelf.Strings.MapGrows
import Derived.Test.YtipihkebbdpmbaaGreatDoorProg
namespace Go.Proofs
open Go.Shelf
def Tryz.lays161_ren : Go.Shelf.Ren:=⟨fun | 161 => 61 | 231 => 69 | 227 => 71 | 233 => 72 | 235 => 74 | 228 => 117 | 197 => 118 | 151 => 119 | 260 => 176 | 152 => 177 | 137 => 123 | 119 => 214 | 224 => 215 | 225 => 216 | 217 => 180 | 266 => 217 | n => n, fun | 9 => 9 | 4 => 4 | 3 => 3 | 5 => 5 | 117 => 148 | 116 => 147 | 0 => 0 | 124 => 151 | 105 => 204 | 21 => 21 | 119 => 291 | 46 => 132 | 139 => 294 | 138 => 293 | n => n, fun | 3 => 4 | 4 => 5 | n => n⟩
theorem Tryz.lays161 : Go.Proofs.Lays.n161 Tryz.prog Tryz.lays161_ren:={
  mixed:=by kernel_rfl
  f119:=Tryz.func214.trans (congrArg some (by kernel_rfl))
  f137:=Tryz.func123.trans (congrArg some (by kernel_rfl))
  f151:=Tryz.func119.trans (congrArg some (by kernel_rfl))
  f152:=Tryz.func177.trans (congrArg some (by kernel_rfl))
  f161:=Tryz.func61.trans (congrArg some (by kernel_rfl))
  f197:=Tryz.func118.trans (congrArg some (by kernel_rfl))
  f217:=Tryz.func180.trans (congrArg some (by kernel_rfl))
  f224:=Tryz.func215.trans (congrArg some (by kernel_rfl))
  f225:=Tryz.func216.trans (congrArg some (by kernel_rfl))
  f227:=Tryz.func71.trans (congrArg some (by kernel_rfl))
  f228:=Tryz.func117.trans (congrArg some (by kernel_rfl))
  f231:=Tryz.func69.trans (congrArg some (by kernel_rfl))
  f233:=Tryz.func72.trans (congrArg some (by kernel_rfl))
  f235:=Tryz.func74.trans (congrArg some (by kernel_rfl))
  f260:=Tryz.func176.trans (congrArg some (by kernel_rfl))
  f266:=Tryz.func217.trans (congrArg some (by kernel_rfl))
  t0:=Tryz.underlying0
  a0:=Tryz.isAgg0
  z0:=Tryz.sizeOf0
  v0:=Tryz.zeroValue0
  t3:=Tryz.underlying3
  a3:=Tryz.isAgg3
  z3:=Tryz.sizeOf3
  v3:=Tryz.zeroValue3
  t4:=Tryz.underlying4
  a4:=Tryz.isAgg4
  z4:=Tryz.sizeOf4
  v4:=Tryz.zeroValue4
  t5:=Tryz.underlying5
  a5:=Tryz.isAgg5
  z5:=Tryz.sizeOf5
  v5:=Tryz.zeroValue5
  t9:=Tryz.underlying9
  a9:=Tryz.isAgg9
  z9:=Tryz.sizeOf9
  v9:=Tryz.zeroValue9
  t21:=Tryz.underlying21
  a21:=Tryz.isAgg21
  z21:=Tryz.sizeOf21
  v21:=Tryz.zeroValue21
  t46:=Tryz.underlying132
  a46:=Tryz.isAgg132
  z46:=Tryz.sizeOf132
  v46:=Tryz.zeroValue132
  t105:=Tryz.underlying204
  a105:=Tryz.isAgg204
  z105:=Tryz.sizeOf204
  v105:=Tryz.zeroValue204
  t116:=Tryz.underlying147
  a116:=Tryz.isAgg147
  z116:=Tryz.sizeOf147
  t117:=Tryz.underlying148
  a117:=Tryz.isAgg148
  z117:=Tryz.sizeOf148
  v117:=Tryz.zeroValue148
  t119:=Tryz.underlying291
  a119:=Tryz.isAgg291
  z119:=Tryz.sizeOf291
  t124:=Tryz.underlying151
  a124:=Tryz.isAgg151
  z124:=Tryz.sizeOf151
  v124:=Tryz.zeroValue151
  t138:=Tryz.underlying293
  a138:=Tryz.isAgg293
  z138:=Tryz.sizeOf293
  v138:=Tryz.zeroValue293
  t139:=Tryz.underlying294
  a139:=Tryz.isAgg294
  z139:=Tryz.sizeOf294
  v139:=Tryz.zeroValue294
  g3:=by kernel_rfl
  g4:=by kernel_rfl }
def Tryz.lays162_ren : Go.Shelf.Ren:=⟨fun | 162 => 162 | 232 => 70 | 227 => 71 | 234 => 73 | 236 => 75 | 228 => 117 | 271 => 120 | 151 => 119 | 120 => 178 | 197 => 118 | 152 => 177 | 260 => 176 | 137 => 123 | 119 => 214 | 224 => 215 | 225 => 216 | 217 => 180 | 266 => 217 | n => n, fun | 9 => 9 | 4 => 4 | 3 => 3 | 5 => 5 | 117 => 148 | 116 => 147 | 0 => 0 | 124 => 151 | 21 => 21 | 105 => 204 | 46 => 132 | 119 => 291 | 139 => 294 | 138 => 293 | n => n, fun | 3 => 4 | 4 => 5 | n => n⟩
theorem Tryz.lays162 : Go.Proofs.Lays.n162 Tryz.prog Tryz.lays162_ren:={
  mixed:=by kernel_rfl
  f119:=Tryz.func214.trans (congrArg some (by kernel_rfl))
  f120:=Tryz.func178.trans (congrArg some (by kernel_rfl))
  f137:=Tryz.func123.trans (congrArg some (by kernel_rfl))
  f151:=Tryz.func119.trans (congrArg some (by kernel_rfl))
  f152:=Tryz.func177.trans (congrArg some (by kernel_rfl))
  f162:=Tryz.func162.trans (congrArg some (by kernel_rfl))
  f197:=Tryz.func118.trans (congrArg some (by kernel_rfl))
  f217:=Tryz.func180.trans (congrArg some (by kernel_rfl))
  f224:=Tryz.func215.trans (congrArg some (by kernel_rfl))
  f225:=Tryz.func216.trans (congrArg some (by kernel_rfl))
  f227:=Tryz.func71.trans (congrArg some (by kernel_rfl))
  f228:=Tryz.func117.trans (congrArg some (by kernel_rfl))
  f232:=Tryz.func70.trans (congrArg some (by kernel_rfl))
  f234:=Tryz.func73.trans (congrArg some (by kernel_rfl))
  f236:=Tryz.func75.trans (congrArg some (by kernel_rfl))
  f260:=Tryz.func176.trans (congrArg some (by kernel_rfl))
  f266:=Tryz.func217.trans (congrArg some (by kernel_rfl))
  f271:=Tryz.func120.trans (congrArg some (by kernel_rfl))
  t0:=Tryz.underlying0
  a0:=Tryz.isAgg0
  z0:=Tryz.sizeOf0
  v0:=Tryz.zeroValue0
  t3:=Tryz.underlying3
  a3:=Tryz.isAgg3
  z3:=Tryz.sizeOf3
  v3:=Tryz.zeroValue3
  t4:=Tryz.underlying4
  a4:=Tryz.isAgg4
  z4:=Tryz.sizeOf4
  v4:=Tryz.zeroValue4
  t5:=Tryz.underlying5
  a5:=Tryz.isAgg5
  z5:=Tryz.sizeOf5
  v5:=Tryz.zeroValue5
  t9:=Tryz.underlying9
  a9:=Tryz.isAgg9
  z9:=Tryz.sizeOf9
  v9:=Tryz.zeroValue9
  t21:=Tryz.underlying21
  a21:=Tryz.isAgg21
  z21:=Tryz.sizeOf21
  v21:=Tryz.zeroValue21
  t46:=Tryz.underlying132
  a46:=Tryz.isAgg132
  z46:=Tryz.sizeOf132
  v46:=Tryz.zeroValue132
  t105:=Tryz.underlying204
  a105:=Tryz.isAgg204
  z105:=Tryz.sizeOf204
  v105:=Tryz.zeroValue204
  t116:=Tryz.underlying147
  a116:=Tryz.isAgg147
  z116:=Tryz.sizeOf147
  t117:=Tryz.underlying148
  a117:=Tryz.isAgg148
  z117:=Tryz.sizeOf148
  v117:=Tryz.zeroValue148
  t119:=Tryz.underlying291
  a119:=Tryz.isAgg291
  z119:=Tryz.sizeOf291
  t124:=Tryz.underlying151
  a124:=Tryz.isAgg151
  z124:=Tryz.sizeOf151
  v124:=Tryz.zeroValue151
  t138:=Tryz.underlying293
  a138:=Tryz.isAgg293
  z138:=Tryz.sizeOf293
  v138:=Tryz.zeroValue293
  t139:=Tryz.underlying294
  a139:=Tryz.isAgg294
  z139:=Tryz.sizeOf294
  v139:=Tryz.zeroValue294
  g3:=by kernel_rfl
  g4:=by kernel_rfl }
def Tryz.lays160_ren : Go.Shelf.Ren:=⟨fun | 160 => 30 | 232 => 70 | 231 => 69 | 227 => 71 | 234 => 73 | 233 => 72 | 236 => 75 | 235 => 74 | 228 => 117 | 271 => 120 | 151 => 119 | 197 => 118 | 120 => 178 | 152 => 177 | 260 => 176 | 137 => 123 | 119 => 214 | 224 => 215 | 225 => 216 | 217 => 180 | 266 => 217 | n => n, fun | 9 => 9 | 4 => 4 | 3 => 3 | 5 => 5 | 117 => 148 | 116 => 147 | 0 => 0 | 124 => 151 | 21 => 21 | 105 => 204 | 46 => 132 | 119 => 291 | 139 => 294 | 138 => 293 | n => n, fun | 3 => 4 | 4 => 5 | n => n⟩
theorem Tryz.lays160 : Go.Proofs.Lays.n160 Tryz.prog Tryz.lays160_ren:={
  mixed:=by kernel_rfl
  f119:=Tryz.func214.trans (congrArg some (by kernel_rfl))
  f120:=Tryz.func178.trans (congrArg some (by kernel_rfl))
  f137:=Tryz.func123.trans (congrArg some (by kernel_rfl))
  f151:=Tryz.func119.trans (congrArg some (by kernel_rfl))
  f152:=Tryz.func177.trans (congrArg some (by kernel_rfl))
  f160:=Tryz.func30.trans (congrArg some (by kernel_rfl))
  f197:=Tryz.func118.trans (congrArg some (by kernel_rfl))
  f217:=Tryz.func180.trans (congrArg some (by kernel_rfl))
  f224:=Tryz.func215.trans (congrArg some (by kernel_rfl))
  f225:=Tryz.func216.trans (congrArg some (by kernel_rfl))
  f227:=Tryz.func71.trans (congrArg some (by kernel_rfl))
  f228:=Tryz.func117.trans (congrArg some (by kernel_rfl))
  f231:=Tryz.func69.trans (congrArg some (by kernel_rfl))
  f232:=Tryz.func70.trans (congrArg some (by kernel_rfl))
  f233:=Tryz.func72.trans (congrArg some (by kernel_rfl))
  f234:=Tryz.func73.trans (congrArg some (by kernel_rfl))
  f235:=Tryz.func74.trans (congrArg some (by kernel_rfl))
  f236:=Tryz.func75.trans (congrArg some (by kernel_rfl))
  f260:=Tryz.func176.trans (congrArg some (by kernel_rfl))
  f266:=Tryz.func217.trans (congrArg some (by kernel_rfl))
  f271:=Tryz.func120.trans (congrArg some (by kernel_rfl))
  t0:=Tryz.underlying0
  a0:=Tryz.isAgg0
  z0:=Tryz.sizeOf0
  v0:=Tryz.zeroValue0
  t3:=Tryz.underlying3
  a3:=Tryz.isAgg3
  z3:=Tryz.sizeOf3
  v3:=Tryz.zeroValue3
  t4:=Tryz.underlying4
  a4:=Tryz.isAgg4
  z4:=Tryz.sizeOf4
  v4:=Tryz.zeroValue4
  t5:=Tryz.underlying5
  a5:=Tryz.isAgg5
  z5:=Tryz.sizeOf5
  v5:=Tryz.zeroValue5
  t9:=Tryz.underlying9
  a9:=Tryz.isAgg9
  z9:=Tryz.sizeOf9
  v9:=Tryz.zeroValue9
  t21:=Tryz.underlying21
  a21:=Tryz.isAgg21
  z21:=Tryz.sizeOf21
  v21:=Tryz.zeroValue21
  t46:=Tryz.underlying132
  a46:=Tryz.isAgg132
  z46:=Tryz.sizeOf132
  v46:=Tryz.zeroValue132
  t105:=Tryz.underlying204
  a105:=Tryz.isAgg204
  z105:=Tryz.sizeOf204
  v105:=Tryz.zeroValue204
  t116:=Tryz.underlying147
  a116:=Tryz.isAgg147
  z116:=Tryz.sizeOf147
  t117:=Tryz.underlying148
  a117:=Tryz.isAgg148
  z117:=Tryz.sizeOf148
  v117:=Tryz.zeroValue148
  t119:=Tryz.underlying291
  a119:=Tryz.isAgg291
  z119:=Tryz.sizeOf291
  t124:=Tryz.underlying151
  a124:=Tryz.isAgg151
  z124:=Tryz.sizeOf151
  v124:=Tryz.zeroValue151
  t138:=Tryz.underlying293
  a138:=Tryz.isAgg293
  z138:=Tryz.sizeOf293
  v138:=Tryz.zeroValue293
  t139:=Tryz.underlying294
  a139:=Tryz.isAgg294
  z139:=Tryz.sizeOf294
  v139:=Tryz.zeroValue294
  g3:=by kernel_rfl
  g4:=by kernel_rfl }
def Tryz.lays118_ren : Go.Shelf.Ren:=⟨fun | 118 => 125 | n => n, fun | 21 => 21 | 3 => 3 | 4 => 4 | n => n, fun | n => n⟩
theorem Tryz.lays118 : Go.Proofs.Lays.n118 Tryz.prog Tryz.lays118_ren:={
  mixed:=by kernel_rfl
  f118:=Tryz.func125.trans (congrArg some (by kernel_rfl))
  t3:=Tryz.underlying3
  a3:=Tryz.isAgg3
  z3:=Tryz.sizeOf3
  v3:=Tryz.zeroValue3
  t4:=Tryz.underlying4
  a4:=Tryz.isAgg4
  z4:=Tryz.sizeOf4
  v4:=Tryz.zeroValue4
  t21:=Tryz.underlying21
  a21:=Tryz.isAgg21
  z21:=Tryz.sizeOf21
  v21:=Tryz.zeroValue21 }
theorem Tryz.utf8_RuneLen (r : Int) (w : World) :
    Calls Tryz.prog 125 #[.int .i32 r] w fun e w' => e = .returned (.int .i64 (Lib.runeLen r)) ∧ w' = w:=Any.utf8_RuneLen Tryz.lays118 r w
def Tryz.lays137_ren : Go.Shelf.Ren:=⟨fun | 137 => 123 | 217 => 180 | 266 => 217 | n => n, fun | 9 => 9 | 5 => 5 | 3 => 3 | n => n, fun | n => n⟩
theorem Tryz.lays137 : Go.Proofs.Lays.n137 Tryz.prog Tryz.lays137_ren:={
  mixed:=by kernel_rfl
  f137:=Tryz.func123.trans (congrArg some (by kernel_rfl))
  f217:=Tryz.func180.trans (congrArg some (by kernel_rfl))
  f266:=Tryz.func217.trans (congrArg some (by kernel_rfl))
  t3:=Tryz.underlying3
  a3:=Tryz.isAgg3
  z3:=Tryz.sizeOf3
  v3:=Tryz.zeroValue3
  t5:=Tryz.underlying5
  a5:=Tryz.isAgg5
  z5:=Tryz.sizeOf5
  v5:=Tryz.zeroValue5
  t9:=Tryz.underlying9
  a9:=Tryz.isAgg9
  z9:=Tryz.sizeOf9
  v9:=Tryz.zeroValue9 }
open Go.RowKit in
theorem Tryz.strings_IndexByte (s : ByteArray) (c : Int) (w : World) :
    Calls Tryz.prog 123 #[.string s, .int .u8 c] w fun e w' => e = .returned (.int .i64 (Lib.indexByte s.data.toList c.toNat.toUInt8)) ∧ w' = w:=Any.strings_IndexByte Tryz.lays137 s c w
def Tryz.lays103_ren : Go.Shelf.Ren:=⟨fun | 103 => 158 | 210 => 208 | 206 => 114 | n => n, fun | 9 => 9 | 4 => 4 | 24 => 85 | 3 => 3 | n => n, fun | n => n⟩
theorem Tryz.lays103 : Go.Proofs.Lays.n103 Tryz.prog Tryz.lays103_ren:={
  mixed:=by kernel_rfl
  f103:=Tryz.func158.trans (congrArg some (by kernel_rfl))
  f206:=Tryz.func114.trans (congrArg some (by kernel_rfl))
  f210:=Tryz.func208.trans (congrArg some (by kernel_rfl))
  t3:=Tryz.underlying3
  a3:=Tryz.isAgg3
  z3:=Tryz.sizeOf3
  v3:=Tryz.zeroValue3
  t4:=Tryz.underlying4
  a4:=Tryz.isAgg4
  z4:=Tryz.sizeOf4
  v4:=Tryz.zeroValue4
  t9:=Tryz.underlying9
  a9:=Tryz.isAgg9
  z9:=Tryz.sizeOf9
  v9:=Tryz.zeroValue9
  t24:=Tryz.underlying85
  a24:=Tryz.isAgg85
  z24:=Tryz.sizeOf85
  v24:=Tryz.zeroValue85 }
open Go.RowKit in
theorem Tryz.strings_CutPrefix (s p : ByteArray) (w : World) :
    Calls Tryz.prog 158 #[.string s, .string p] w fun e w' => e = .returned (.tuple #[.string ⟨(Lib.trimPrefix s.data.toList p.data.toList).toArray⟩, .bool (Lib.hasPrefix s.data.toList p.data.toList)]) ∧ w' = w:=Any.strings_CutPrefix Tryz.lays103 s p w
def Tryz.lays104_ren : Go.Shelf.Ren:=⟨fun | 104 => 121 | 211 => 179 | 207 => 111 | n => n, fun | 9 => 9 | 4 => 4 | 24 => 85 | 3 => 3 | n => n, fun | n => n⟩
theorem Tryz.lays104 : Go.Proofs.Lays.n104 Tryz.prog Tryz.lays104_ren:={
  mixed:=by kernel_rfl
  f104:=Tryz.func121.trans (congrArg some (by kernel_rfl))
  f207:=Tryz.func111.trans (congrArg some (by kernel_rfl))
  f211:=Tryz.func179.trans (congrArg some (by kernel_rfl))
  t3:=Tryz.underlying3
  a3:=Tryz.isAgg3
  z3:=Tryz.sizeOf3
  v3:=Tryz.zeroValue3
  t4:=Tryz.underlying4
  a4:=Tryz.isAgg4
  z4:=Tryz.sizeOf4
  v4:=Tryz.zeroValue4
  t9:=Tryz.underlying9
  a9:=Tryz.isAgg9
  z9:=Tryz.sizeOf9
  v9:=Tryz.zeroValue9
  t24:=Tryz.underlying85
  a24:=Tryz.isAgg85
  z24:=Tryz.sizeOf85
  v24:=Tryz.zeroValue85 }
open Go.RowKit in
theorem Tryz.strings_CutSuffix (s p : ByteArray) (w : World) (hs : s.size ≤ 9223372036854775807) :
    Calls Tryz.prog 121 #[.string s, .string p] w fun e w' => e = .returned (.tuple #[.string ⟨(Lib.trimSuffix s.data.toList p.data.toList).toArray⟩, .bool (Lib.hasSuffix s.data.toList p.data.toList)]) ∧ w' = w:=Any.strings_CutSuffix Tryz.lays104 s p w hs
def Tryz.lays172_ren : Go.Shelf.Ren:=⟨fun | 172 => 205 | 244 => 239 | 245 => 235 | 247 => 234 | 279 => 258 | 280 => 259 | 281 => 260 | 282 => 261 | 287 => 257 | 316 => 274 | 171 => 18 | 205 => 275 | 321 => 272 | 322 => 273 | 243 => 48 | 246 => 100 | 283 => 147 | 284 => 148 | 285 => 149 | 286 => 150 | 129 => 200 | 317 => 199 | 318 => 201 | 319 => 202 | 320 => 203 | 337 => 236 | 338 => 237 | n => n, fun | 9 => 9 | 3 => 3 | 75 => 140 | 76 => 141 | 4 => 4 | 5 => 5 | 167 => 323 | 37 => 22 | 0 => 0 | 85 => 283 | 2 => 2 | 168 => 326 | 53 => 199 | 175 => 324 | 46 => 132 | 210 => 347 | 127 => 202 | 145 => 353 | 143 => 351 | 21 => 21 | 171 => 233 | 173 => 236 | 212 => 287 | 51 => 196 | 20 => 20 | 213 => 288 | 232 => 329 | 233 => 330 | 80 => 144 | n => n, fun | 15 => 10 | 16 => 11 | 17 => 2 | 18 => 8 | 19 => 9 | n => n⟩
theorem Tryz.lays172 : Go.Proofs.Lays.n172 Tryz.prog Tryz.lays172_ren:={
  mixed:=by kernel_rfl
  f129:=Tryz.func200.trans (congrArg some (by kernel_rfl))
  f171:=Tryz.func18.trans (congrArg some (by kernel_rfl))
  f172:=Tryz.func205.trans (congrArg some (by kernel_rfl))
  f205:=Tryz.func275.trans (congrArg some (by kernel_rfl))
  f243:=Tryz.func48.trans (congrArg some (by kernel_rfl))
  f244:=Tryz.func239.trans (congrArg some (by kernel_rfl))
  f245:=Tryz.func235.trans (congrArg some (by kernel_rfl))
  f246:=Tryz.func100.trans (congrArg some (by kernel_rfl))
  f247:=Tryz.func234.trans (congrArg some (by kernel_rfl))
  f279:=Tryz.func258.trans (congrArg some (by kernel_rfl))
  f280:=Tryz.func259.trans (congrArg some (by kernel_rfl))
  f281:=Tryz.func260.trans (congrArg some (by kernel_rfl))
  f282:=Tryz.func261.trans (congrArg some (by kernel_rfl))
  f283:=Tryz.func147.trans (congrArg some (by kernel_rfl))
  f284:=Tryz.func148.trans (congrArg some (by kernel_rfl))
  f285:=Tryz.func149.trans (congrArg some (by kernel_rfl))
  f286:=Tryz.func150.trans (congrArg some (by kernel_rfl))
  f287:=Tryz.func257.trans (congrArg some (by kernel_rfl))
  f316:=Tryz.func274.trans (congrArg some (by kernel_rfl))
  f317:=Tryz.func199.trans (congrArg some (by kernel_rfl))
  f318:=Tryz.func201.trans (congrArg some (by kernel_rfl))
  f319:=Tryz.func202.trans (congrArg some (by kernel_rfl))
  f320:=Tryz.func203.trans (congrArg some (by kernel_rfl))
  f321:=Tryz.func272.trans (congrArg some (by kernel_rfl))
  f322:=Tryz.func273.trans (congrArg some (by kernel_rfl))
  f337:=Tryz.func236.trans (congrArg some (by kernel_rfl))
  f338:=Tryz.func237.trans (congrArg some (by kernel_rfl))
  t0:=Tryz.underlying0
  a0:=Tryz.isAgg0
  z0:=Tryz.sizeOf0
  v0:=Tryz.zeroValue0
  t2:=Tryz.underlying2
  a2:=Tryz.isAgg2
  z2:=Tryz.sizeOf2
  v2:=Tryz.zeroValue2
  t3:=Tryz.underlying3
  a3:=Tryz.isAgg3
  z3:=Tryz.sizeOf3
  v3:=Tryz.zeroValue3
  t4:=Tryz.underlying4
  a4:=Tryz.isAgg4
  z4:=Tryz.sizeOf4
  v4:=Tryz.zeroValue4
  t5:=Tryz.underlying5
  a5:=Tryz.isAgg5
  z5:=Tryz.sizeOf5
  v5:=Tryz.zeroValue5
  t9:=Tryz.underlying9
  a9:=Tryz.isAgg9
  z9:=Tryz.sizeOf9
  v9:=Tryz.zeroValue9
  t20:=Tryz.underlying20
  a20:=Tryz.isAgg20
  z20:=Tryz.sizeOf20
  v20:=Tryz.zeroValue20
  t21:=Tryz.underlying21
  a21:=Tryz.isAgg21
  z21:=Tryz.sizeOf21
  v21:=Tryz.zeroValue21
  t37:=Tryz.underlying22
  a37:=Tryz.isAgg22
  z37:=Tryz.sizeOf22
  v37:=Tryz.zeroValue22
  t46:=Tryz.underlying132
  a46:=Tryz.isAgg132
  z46:=Tryz.sizeOf132
  v46:=Tryz.zeroValue132
  t51:=Tryz.underlying196
  a51:=Tryz.isAgg196
  z51:=Tryz.sizeOf196
  v51:=Tryz.zeroValue196
  t53:=Tryz.underlying199
  a53:=Tryz.isAgg199
  z53:=Tryz.sizeOf199
  v53:=Tryz.zeroValue199
  t75:=Tryz.underlying140
  a75:=Tryz.isAgg140
  z75:=Tryz.sizeOf140
  v75:=Tryz.zeroValue140
  t76:=Tryz.underlying141
  a76:=Tryz.isAgg141
  z76:=Tryz.sizeOf141
  v76:=Tryz.zeroValue141
  t85:=Tryz.underlying283
  a85:=Tryz.isAgg283
  z85:=Tryz.sizeOf283
  v85:=Tryz.zeroValue283
  t127:=Tryz.underlying202
  a127:=Tryz.isAgg202
  z127:=Tryz.sizeOf202
  v127:=Tryz.zeroValue202
  t143:=Tryz.underlying351
  a143:=Tryz.isAgg351
  z143:=Tryz.sizeOf351
  v143:=Tryz.zeroValue351
  t145:=Tryz.underlying353
  a145:=Tryz.isAgg353
  z145:=Tryz.sizeOf353
  v145:=Tryz.zeroValue353
  t167:=Tryz.underlying323
  a167:=Tryz.isAgg323
  z167:=Tryz.sizeOf323
  v167:=Tryz.zeroValue323
  t168:=Tryz.underlying326
  a168:=Tryz.isAgg326
  z168:=Tryz.sizeOf326
  v168:=Tryz.zeroValue326
  t171:=Tryz.underlying233
  a171:=Tryz.isAgg233
  z171:=Tryz.sizeOf233
  v171:=Tryz.zeroValue233
  t173:=Tryz.underlying236
  a173:=Tryz.isAgg236
  z173:=Tryz.sizeOf236
  v173:=Tryz.zeroValue236
  t175:=Tryz.underlying324
  a175:=Tryz.isAgg324
  z175:=Tryz.sizeOf324
  v175:=Tryz.zeroValue324
  t210:=Tryz.underlying347
  a210:=Tryz.isAgg347
  z210:=Tryz.sizeOf347
  v210:=Tryz.zeroValue347
  t212:=Tryz.underlying287
  a212:=Tryz.isAgg287
  z212:=Tryz.sizeOf287
  v212:=Tryz.zeroValue287
  t213:=Tryz.underlying288
  a213:=Tryz.isAgg288
  z213:=Tryz.sizeOf288
  t232:=Tryz.underlying329
  a232:=Tryz.isAgg329
  z232:=Tryz.sizeOf329
  v232:=Tryz.zeroValue329
  t233:=Tryz.underlying330
  a233:=Tryz.isAgg330
  z233:=Tryz.sizeOf330
  v233:=Tryz.zeroValue330
  g15:=by kernel_rfl
  g16:=by kernel_rfl
  g17:=by kernel_rfl
  g18:=by kernel_rfl
  g19:=by kernel_rfl }
open Go.RowKit in
theorem Tryz.strconv_Atoi (s : ByteArray) (n : Int) (hl : s.size ≤ 18) (h : Lib.atoi s.data.toList = some n) (w : World) :
    Calls Tryz.prog 205 #[.string s] w fun e w' => e = .returned (.tuple #[.int .i64 n, .nilIface]) ∧ ∃ t, w' = Lib.bytesWorld w 5 t:=Any.strconv_Atoi Tryz.lays172 s n hl h w
def Tryz.laysM171_ren : Go.Shelf.Ren:=⟨fun | 171 => 18 | 243 => 48 | 246 => 100 | 283 => 147 | 284 => 148 | 285 => 149 | 286 => 150 | 129 => 200 | 317 => 199 | 318 => 201 | 319 => 202 | 320 => 203 | 337 => 236 | 338 => 237 | n => n, fun | 3 => 3 | 9 => 9 | 2 => 2 | 4 => 4 | 171 => 233 | 0 => 0 | 53 => 199 | 37 => 22 | 5 => 5 | 173 => 236 | 212 => 287 | 51 => 196 | 20 => 20 | 213 => 288 | 46 => 132 | 232 => 329 | 233 => 330 | n => n, fun | 17 => 2 | 18 => 8 | 19 => 9 | n => n⟩
theorem Tryz.laysM171 : Go.Proofs.LaysM.n171 Tryz.prog Tryz.laysM171_ren:={
  mixed:=by kernel_rfl
  f129:=Tryz.func200.trans (congrArg some (by kernel_rfl))
  f171:=Tryz.func18.trans (congrArg some (by kernel_rfl))
  f243:=Tryz.func48.trans (congrArg some (by kernel_rfl))
  f246:=Tryz.func100.trans (congrArg some (by kernel_rfl))
  f283:=Tryz.func147.trans (congrArg some (by kernel_rfl))
  f284:=Tryz.func148.trans (congrArg some (by kernel_rfl))
  f285:=Tryz.func149.trans (congrArg some (by kernel_rfl))
  f286:=Tryz.func150.trans (congrArg some (by kernel_rfl))
  f317:=Tryz.func199.trans (congrArg some (by kernel_rfl))
  f318:=Tryz.func201.trans (congrArg some (by kernel_rfl))
  f319:=Tryz.func202.trans (congrArg some (by kernel_rfl))
  f320:=Tryz.func203.trans (congrArg some (by kernel_rfl))
  f337:=Tryz.func236.trans (congrArg some (by kernel_rfl))
  f338:=Tryz.func237.trans (congrArg some (by kernel_rfl))
  t0:=Tryz.underlying0
  a0:=Tryz.isAgg0
  z0:=Tryz.sizeOf0
  v0:=Tryz.zeroValue0
  t2:=Tryz.underlying2
  a2:=Tryz.isAgg2
  z2:=Tryz.sizeOf2
  v2:=Tryz.zeroValue2
  t3:=Tryz.underlying3
  a3:=Tryz.isAgg3
  z3:=Tryz.sizeOf3
  v3:=Tryz.zeroValue3
  t4:=Tryz.underlying4
  a4:=Tryz.isAgg4
  z4:=Tryz.sizeOf4
  v4:=Tryz.zeroValue4
  t5:=Tryz.underlying5
  a5:=Tryz.isAgg5
  z5:=Tryz.sizeOf5
  v5:=Tryz.zeroValue5
  t9:=Tryz.underlying9
  a9:=Tryz.isAgg9
  z9:=Tryz.sizeOf9
  v9:=Tryz.zeroValue9
  t20:=Tryz.underlying20
  a20:=Tryz.isAgg20
  z20:=Tryz.sizeOf20
  v20:=Tryz.zeroValue20
  t37:=Tryz.underlying22
  a37:=Tryz.isAgg22
  z37:=Tryz.sizeOf22
  v37:=Tryz.zeroValue22
  t46:=Tryz.underlying132
  a46:=Tryz.isAgg132
  z46:=Tryz.sizeOf132
  v46:=Tryz.zeroValue132
  t51:=Tryz.underlying196
  a51:=Tryz.isAgg196
  z51:=Tryz.sizeOf196
  v51:=Tryz.zeroValue196
  t53:=Tryz.underlying199
  a53:=Tryz.isAgg199
  z53:=Tryz.sizeOf199
  v53:=Tryz.zeroValue199
  t171:=Tryz.underlying233
  a171:=Tryz.isAgg233
  z171:=Tryz.sizeOf233
  v171:=Tryz.zeroValue233
  t173:=Tryz.underlying236
  a173:=Tryz.isAgg236
  z173:=Tryz.sizeOf236
  v173:=Tryz.zeroValue236
  t212:=Tryz.underlying287
  a212:=Tryz.isAgg287
  z212:=Tryz.sizeOf287
  v212:=Tryz.zeroValue287
  t213:=Tryz.underlying288
  a213:=Tryz.isAgg288
  z213:=Tryz.sizeOf288
  t232:=Tryz.underlying329
  a232:=Tryz.isAgg329
  z232:=Tryz.sizeOf329
  v232:=Tryz.zeroValue329
  t233:=Tryz.underlying330
  a233:=Tryz.isAgg330
  z233:=Tryz.sizeOf330
  v233:=Tryz.zeroValue330
  g17:=by kernel_rfl
  g18:=by kernel_rfl
  g19:=by kernel_rfl
  i0:=by kernel_rfl
  i2:=by kernel_rfl
  i3:=by kernel_rfl
  i4:=by kernel_rfl
  i5:=by kernel_rfl
  i9:=by kernel_rfl
  i20:=by kernel_rfl
  i37:=by kernel_rfl
  i46:=by kernel_rfl
  i51:=by kernel_rfl
  i53:=by kernel_rfl
  i171:=by kernel_rfl
  i173:=by kernel_rfl
  i212:=by kernel_rfl
  i232:=by kernel_rfl
  i233:=by kernel_rfl
  m17:=by kernel_rfl
  m18:=by kernel_rfl
  m19:=by kernel_rfl }
open Go.RowKit Go.Sort Go.Lib in
theorem Tryz.strconv_Itoa (n : Int) (h0 : -9223372036854775808 ≤ n) (h1 : n ≤ 9223372036854775807) (w : World) (htab : Lib.TabIs Tryz.prog w "internal/strconv.uint64pow10" .u64 Lib.pow10Tab) :
    Calls Tryz.prog 18 #[.int .i64 n] w fun e w' => e = .returned (.string ⟨(Lib.itoa n).toArray⟩) ∧ ∃ k os, w' = grow (w.drewN k) os:=Any.strconv_Itoa Tryz.laysM171 n h0 h1 w htab
def Tryz.lays144_ren : Go.Shelf.Ren:=⟨fun | 144 => 219 | 143 => 153 | 219 => 204 | 217 => 180 | 225 => 216 | 224 => 215 | 267 => 238 | 266 => 217 | 314 => 262 | n => n, fun | 9 => 9 | 4 => 4 | 3 => 3 | 5 => 5 | 46 => 132 | 146 => 197 | 51 => 196 | n => n, fun | 1 => 0 | n => n⟩
theorem Tryz.lays144 : Go.Proofs.Lays.n144 Tryz.prog Tryz.lays144_ren:={
  mixed:=by kernel_rfl
  f143:=Tryz.func153.trans (congrArg some (by kernel_rfl))
  f144:=Tryz.func219.trans (congrArg some (by kernel_rfl))
  f217:=Tryz.func180.trans (congrArg some (by kernel_rfl))
  f219:=Tryz.func204.trans (congrArg some (by kernel_rfl))
  f224:=Tryz.func215.trans (congrArg some (by kernel_rfl))
  f225:=Tryz.func216.trans (congrArg some (by kernel_rfl))
  f266:=Tryz.func217.trans (congrArg some (by kernel_rfl))
  f267:=Tryz.func238.trans (congrArg some (by kernel_rfl))
  f314:=Tryz.func262.trans (congrArg some (by kernel_rfl))
  t3:=Tryz.underlying3
  a3:=Tryz.isAgg3
  z3:=Tryz.sizeOf3
  v3:=Tryz.zeroValue3
  t4:=Tryz.underlying4
  a4:=Tryz.isAgg4
  z4:=Tryz.sizeOf4
  v4:=Tryz.zeroValue4
  t5:=Tryz.underlying5
  a5:=Tryz.isAgg5
  z5:=Tryz.sizeOf5
  v5:=Tryz.zeroValue5
  t9:=Tryz.underlying9
  a9:=Tryz.isAgg9
  z9:=Tryz.sizeOf9
  v9:=Tryz.zeroValue9
  t46:=Tryz.underlying132
  a46:=Tryz.isAgg132
  z46:=Tryz.sizeOf132
  v46:=Tryz.zeroValue132
  t51:=Tryz.underlying196
  a51:=Tryz.isAgg196
  z51:=Tryz.sizeOf196
  v51:=Tryz.zeroValue196
  t146:=Tryz.underlying197
  a146:=Tryz.isAgg197
  z146:=Tryz.sizeOf197
  v146:=Tryz.zeroValue197
  g1:=by kernel_rfl }
open Go.RowKit Go.Lib in
theorem Tryz.strings_Contains_one (s : ByteArray) (c : UInt8) (w : World) :
    Calls Tryz.prog 219 #[.string s, .string ⟨#[c]⟩] w fun e w' => e = .returned (.bool (decide (0 ≤ Lib.indexByte s.data.toList c))) ∧ w' = w:=Any.strings_Contains_one Tryz.lays144 s c w
def Tryz.lays145_ren : Go.Shelf.Ren:=⟨fun | 145 => 159 | 220 => 209 | 219 => 204 | 217 => 180 | 225 => 216 | 224 => 215 | 267 => 238 | 266 => 217 | 314 => 262 | n => n, fun | 9 => 9 | 4 => 4 | 59 => 243 | 3 => 3 | 5 => 5 | 46 => 132 | 146 => 197 | 51 => 196 | n => n, fun | 1 => 0 | n => n⟩
theorem Tryz.lays145 : Go.Proofs.Lays.n145 Tryz.prog Tryz.lays145_ren:={
  mixed:=by kernel_rfl
  f145:=Tryz.func159.trans (congrArg some (by kernel_rfl))
  f217:=Tryz.func180.trans (congrArg some (by kernel_rfl))
  f219:=Tryz.func204.trans (congrArg some (by kernel_rfl))
  f220:=Tryz.func209.trans (congrArg some (by kernel_rfl))
  f224:=Tryz.func215.trans (congrArg some (by kernel_rfl))
  f225:=Tryz.func216.trans (congrArg some (by kernel_rfl))
  f266:=Tryz.func217.trans (congrArg some (by kernel_rfl))
  f267:=Tryz.func238.trans (congrArg some (by kernel_rfl))
  f314:=Tryz.func262.trans (congrArg some (by kernel_rfl))
  t3:=Tryz.underlying3
  a3:=Tryz.isAgg3
  z3:=Tryz.sizeOf3
  v3:=Tryz.zeroValue3
  t4:=Tryz.underlying4
  a4:=Tryz.isAgg4
  z4:=Tryz.sizeOf4
  v4:=Tryz.zeroValue4
  t5:=Tryz.underlying5
  a5:=Tryz.isAgg5
  z5:=Tryz.sizeOf5
  v5:=Tryz.zeroValue5
  t9:=Tryz.underlying9
  a9:=Tryz.isAgg9
  z9:=Tryz.sizeOf9
  v9:=Tryz.zeroValue9
  t46:=Tryz.underlying132
  a46:=Tryz.isAgg132
  z46:=Tryz.sizeOf132
  v46:=Tryz.zeroValue132
  t51:=Tryz.underlying196
  a51:=Tryz.isAgg196
  z51:=Tryz.sizeOf196
  v51:=Tryz.zeroValue196
  t59:=Tryz.underlying243
  a59:=Tryz.isAgg243
  z59:=Tryz.sizeOf243
  v59:=Tryz.zeroValue243
  t146:=Tryz.underlying197
  a146:=Tryz.isAgg197
  z146:=Tryz.sizeOf197
  v146:=Tryz.zeroValue197
  g1:=by kernel_rfl }
open Go.RowKit Go.Lib in
theorem Tryz.strings_Cut (s sep : ByteArray) (m : Int) (w : World) (hs : s.size < 4294967281) (hm : w.cell? ⟨0, 0, none⟩ = some (.int .i64 m)) :
    Calls Tryz.prog 159 #[.string s, .string sep] w fun e w' => e = .returned (.tuple #[.string ⟨(Lib.cut s.data.toList sep.data.toList).1.toArray⟩, .string ⟨(Lib.cut s.data.toList sep.data.toList).2.1.toArray⟩, .bool (Lib.cut s.data.toList sep.data.toList).2.2]) ∧ ∃ n, w' = w.drewN n:=Any.strings_Cut Tryz.lays145 s sep m w hs hm
def Tryz.lays138_ren : Go.Shelf.Ren:=⟨fun | 138 => 101 | 195 => 151 | 218 => 152 | 143 => 153 | 219 => 204 | 217 => 180 | 225 => 216 | 224 => 215 | 267 => 238 | 266 => 217 | 314 => 262 | n => n, fun | 9 => 9 | 3 => 3 | 4 => 4 | 5 => 5 | 0 => 0 | 46 => 132 | 146 => 197 | 51 => 196 | n => n, fun | 1 => 0 | n => n⟩
theorem Tryz.lays138 : Go.Proofs.Lays.n138 Tryz.prog Tryz.lays138_ren:={
  mixed:=by kernel_rfl
  f138:=Tryz.func101.trans (congrArg some (by kernel_rfl))
  f143:=Tryz.func153.trans (congrArg some (by kernel_rfl))
  f195:=Tryz.func151.trans (congrArg some (by kernel_rfl))
  f217:=Tryz.func180.trans (congrArg some (by kernel_rfl))
  f218:=Tryz.func152.trans (congrArg some (by kernel_rfl))
  f219:=Tryz.func204.trans (congrArg some (by kernel_rfl))
  f224:=Tryz.func215.trans (congrArg some (by kernel_rfl))
  f225:=Tryz.func216.trans (congrArg some (by kernel_rfl))
  f266:=Tryz.func217.trans (congrArg some (by kernel_rfl))
  f267:=Tryz.func238.trans (congrArg some (by kernel_rfl))
  f314:=Tryz.func262.trans (congrArg some (by kernel_rfl))
  t0:=Tryz.underlying0
  a0:=Tryz.isAgg0
  z0:=Tryz.sizeOf0
  v0:=Tryz.zeroValue0
  t3:=Tryz.underlying3
  a3:=Tryz.isAgg3
  z3:=Tryz.sizeOf3
  v3:=Tryz.zeroValue3
  t4:=Tryz.underlying4
  a4:=Tryz.isAgg4
  z4:=Tryz.sizeOf4
  v4:=Tryz.zeroValue4
  t5:=Tryz.underlying5
  a5:=Tryz.isAgg5
  z5:=Tryz.sizeOf5
  v5:=Tryz.zeroValue5
  t9:=Tryz.underlying9
  a9:=Tryz.isAgg9
  z9:=Tryz.sizeOf9
  v9:=Tryz.zeroValue9
  t46:=Tryz.underlying132
  a46:=Tryz.isAgg132
  z46:=Tryz.sizeOf132
  v46:=Tryz.zeroValue132
  t51:=Tryz.underlying196
  a51:=Tryz.isAgg196
  z51:=Tryz.sizeOf196
  v51:=Tryz.zeroValue196
  t146:=Tryz.underlying197
  a146:=Tryz.isAgg197
  z146:=Tryz.sizeOf197
  v146:=Tryz.zeroValue197
  g1:=by kernel_rfl }
open Go.RowKit Go.Lib in
theorem Tryz.strings_Count_one (s : ByteArray) (c : UInt8) (w : World) :
    Calls Tryz.prog 101 #[.string s, .string ⟨#[c]⟩] w fun e w' => e = .returned (.int .i64 (Lib.countByte s.data.toList c)) ∧ w' = w:=Any.strings_Count_one Tryz.lays138 s c w
def Tryz.lays99_ren : Go.Shelf.Ren:=⟨fun | 99 => 64 | 206 => 114 | n => n, fun | 9 => 9 | 4 => 4 | 3 => 3 | n => n, fun | n => n⟩
theorem Tryz.lays99 : Go.Proofs.Lays.n99 Tryz.prog Tryz.lays99_ren:={
  mixed:=by kernel_rfl
  f99:=Tryz.func64.trans (congrArg some (by kernel_rfl))
  f206:=Tryz.func114.trans (congrArg some (by kernel_rfl))
  t3:=Tryz.underlying3
  a3:=Tryz.isAgg3
  z3:=Tryz.sizeOf3
  v3:=Tryz.zeroValue3
  t4:=Tryz.underlying4
  a4:=Tryz.isAgg4
  z4:=Tryz.sizeOf4
  v4:=Tryz.zeroValue4
  t9:=Tryz.underlying9
  a9:=Tryz.isAgg9
  z9:=Tryz.sizeOf9
  v9:=Tryz.zeroValue9 }
open Go.RowKit Go.Lib in
theorem Tryz.strings_HasPrefix (s p : ByteArray) (w : World) :
    Calls Tryz.prog 64 #[.string s, .string p] w fun e w' => e = .returned (.bool (Lib.hasPrefix s.data.toList p.data.toList)) ∧ w' = w:=Any.strings_HasPrefix Tryz.lays99 s p w
def Tryz.lays100_ren : Go.Shelf.Ren:=⟨fun | 100 => 62 | 207 => 111 | n => n, fun | 9 => 9 | 4 => 4 | 3 => 3 | n => n, fun | n => n⟩
theorem Tryz.lays100 : Go.Proofs.Lays.n100 Tryz.prog Tryz.lays100_ren:={
  mixed:=by kernel_rfl
  f100:=Tryz.func62.trans (congrArg some (by kernel_rfl))
  f207:=Tryz.func111.trans (congrArg some (by kernel_rfl))
  t3:=Tryz.underlying3
  a3:=Tryz.isAgg3
  z3:=Tryz.sizeOf3
  v3:=Tryz.zeroValue3
  t4:=Tryz.underlying4
  a4:=Tryz.isAgg4
  z4:=Tryz.sizeOf4
  v4:=Tryz.zeroValue4
  t9:=Tryz.underlying9
  a9:=Tryz.isAgg9
  z9:=Tryz.sizeOf9
  v9:=Tryz.zeroValue9 }
open Go.RowKit Go.Lib in
theorem Tryz.strings_HasSuffix (s p : ByteArray) (w : World) (hs : s.size ≤ 9223372036854775807) :
    Calls Tryz.prog 62 #[.string s, .string p] w fun e w' => e = .returned (.bool (Lib.hasSuffix s.data.toList p.data.toList)) ∧ w' = w:=Any.strings_HasSuffix Tryz.lays100 s p w hs
def Tryz.lays101_ren : Go.Shelf.Ren:=⟨fun | 101 => 184 | 208 => 220 | 206 => 114 | n => n, fun | 9 => 9 | 4 => 4 | 3 => 3 | n => n, fun | n => n⟩
theorem Tryz.lays101 : Go.Proofs.Lays.n101 Tryz.prog Tryz.lays101_ren:={
  mixed:=by kernel_rfl
  f101:=Tryz.func184.trans (congrArg some (by kernel_rfl))
  f206:=Tryz.func114.trans (congrArg some (by kernel_rfl))
  f208:=Tryz.func220.trans (congrArg some (by kernel_rfl))
  t3:=Tryz.underlying3
  a3:=Tryz.isAgg3
  z3:=Tryz.sizeOf3
  v3:=Tryz.zeroValue3
  t4:=Tryz.underlying4
  a4:=Tryz.isAgg4
  z4:=Tryz.sizeOf4
  v4:=Tryz.zeroValue4
  t9:=Tryz.underlying9
  a9:=Tryz.isAgg9
  z9:=Tryz.sizeOf9
  v9:=Tryz.zeroValue9 }
open Go.RowKit Go.Lib in
theorem Tryz.strings_TrimPrefix (s p : ByteArray) (w : World) :
    Calls Tryz.prog 184 #[.string s, .string p] w fun e w' => e = .returned (.string ⟨(Lib.trimPrefix s.data.toList p.data.toList).toArray⟩) ∧ w' = w:=Any.strings_TrimPrefix Tryz.lays101 s p w
def Tryz.lays102_ren : Go.Shelf.Ren:=⟨fun | 102 => 161 | 209 => 210 | 207 => 111 | n => n, fun | 9 => 9 | 4 => 4 | 3 => 3 | n => n, fun | n => n⟩
theorem Tryz.lays102 : Go.Proofs.Lays.n102 Tryz.prog Tryz.lays102_ren:={
  mixed:=by kernel_rfl
  f102:=Tryz.func161.trans (congrArg some (by kernel_rfl))
  f207:=Tryz.func111.trans (congrArg some (by kernel_rfl))
  f209:=Tryz.func210.trans (congrArg some (by kernel_rfl))
  t3:=Tryz.underlying3
  a3:=Tryz.isAgg3
  z3:=Tryz.sizeOf3
  v3:=Tryz.zeroValue3
  t4:=Tryz.underlying4
  a4:=Tryz.isAgg4
  z4:=Tryz.sizeOf4
  v4:=Tryz.zeroValue4
  t9:=Tryz.underlying9
  a9:=Tryz.isAgg9
  z9:=Tryz.sizeOf9
  v9:=Tryz.zeroValue9 }
open Go.RowKit Go.Lib in
theorem Tryz.strings_TrimSuffix (s p : ByteArray) (w : World) (hs : s.size ≤ 9223372036854775807) :
    Calls Tryz.prog 161 #[.string s, .string p] w fun e w' => e = .returned (.string ⟨(Lib.trimSuffix s.data.toList p.data.toList).toArray⟩) ∧ w' = w:=Any.strings_TrimSuffix Tryz.lays102 s p w hs
def Tryz.lays157_ren : Go.Shelf.Ren:=⟨fun | 157 => 186 | 229 => 223 | 199 => 224 | 261 => 241 | 311 => 263 | 312 => 264 | n => n, fun | 9 => 9 | 31 => 90 | 3 => 3 | 5 => 5 | 4 => 4 | 119 => 291 | 0 => 0 | 40 => 295 | 152 => 310 | 21 => 21 | 154 => 312 | 51 => 196 | 141 => 314 | 196 => 335 | 193 => 332 | 198 => 337 | 49 => 113 | 194 => 333 | 201 => 340 | 226 => 349 | 46 => 132 | 227 => 350 | n => n, fun | 0 => 6 | 6 => 7 | n => n⟩
theorem Tryz.lays157 : Go.Proofs.Lays.n157 Tryz.prog Tryz.lays157_ren:={
  mixed:=by kernel_rfl
  f157:=Tryz.func186.trans (congrArg some (by kernel_rfl))
  f199:=Tryz.func224.trans (congrArg some (by kernel_rfl))
  f229:=Tryz.func223.trans (congrArg some (by kernel_rfl))
  f261:=Tryz.func241.trans (congrArg some (by kernel_rfl))
  f311:=Tryz.func263.trans (congrArg some (by kernel_rfl))
  f312:=Tryz.func264.trans (congrArg some (by kernel_rfl))
  t0:=Tryz.underlying0
  a0:=Tryz.isAgg0
  z0:=Tryz.sizeOf0
  v0:=Tryz.zeroValue0
  t3:=Tryz.underlying3
  a3:=Tryz.isAgg3
  z3:=Tryz.sizeOf3
  v3:=Tryz.zeroValue3
  t4:=Tryz.underlying4
  a4:=Tryz.isAgg4
  z4:=Tryz.sizeOf4
  v4:=Tryz.zeroValue4
  t5:=Tryz.underlying5
  a5:=Tryz.isAgg5
  z5:=Tryz.sizeOf5
  v5:=Tryz.zeroValue5
  t9:=Tryz.underlying9
  a9:=Tryz.isAgg9
  z9:=Tryz.sizeOf9
  v9:=Tryz.zeroValue9
  t21:=Tryz.underlying21
  a21:=Tryz.isAgg21
  z21:=Tryz.sizeOf21
  v21:=Tryz.zeroValue21
  t31:=Tryz.underlying90
  a31:=Tryz.isAgg90
  z31:=Tryz.sizeOf90
  v31:=Tryz.zeroValue90
  t40:=Tryz.underlying295
  a40:=Tryz.isAgg295
  z40:=Tryz.sizeOf295
  v40:=Tryz.zeroValue295
  t46:=Tryz.underlying132
  a46:=Tryz.isAgg132
  z46:=Tryz.sizeOf132
  v46:=Tryz.zeroValue132
  t49:=Tryz.underlying113
  a49:=Tryz.isAgg113
  z49:=Tryz.sizeOf113
  v49:=Tryz.zeroValue113
  t51:=Tryz.underlying196
  a51:=Tryz.isAgg196
  z51:=Tryz.sizeOf196
  v51:=Tryz.zeroValue196
  t119:=Tryz.underlying291
  a119:=Tryz.isAgg291
  z119:=Tryz.sizeOf291
  t141:=Tryz.underlying314
  a141:=Tryz.isAgg314
  z141:=Tryz.sizeOf314
  v141:=Tryz.zeroValue314
  t152:=Tryz.underlying310
  a152:=Tryz.isAgg310
  z152:=Tryz.sizeOf310
  v152:=Tryz.zeroValue310
  t154:=Tryz.underlying312
  a154:=Tryz.isAgg312
  z154:=Tryz.sizeOf312
  v154:=Tryz.zeroValue312
  t193:=Tryz.underlying332
  a193:=Tryz.isAgg332
  z193:=Tryz.sizeOf332
  v193:=Tryz.zeroValue332
  t194:=Tryz.underlying333
  a194:=Tryz.isAgg333
  z194:=Tryz.sizeOf333
  v194:=Tryz.zeroValue333
  t196:=Tryz.underlying335
  a196:=Tryz.isAgg335
  z196:=Tryz.sizeOf335
  v196:=Tryz.zeroValue335
  t198:=Tryz.underlying337
  a198:=Tryz.isAgg337
  z198:=Tryz.sizeOf337
  v198:=Tryz.zeroValue337
  t201:=Tryz.underlying340
  a201:=Tryz.isAgg340
  z201:=Tryz.sizeOf340
  v201:=Tryz.zeroValue340
  t226:=Tryz.underlying349
  a226:=Tryz.isAgg349
  z226:=Tryz.sizeOf349
  v226:=Tryz.zeroValue349
  t227:=Tryz.underlying350
  a227:=Tryz.isAgg350
  z227:=Tryz.sizeOf350
  v227:=Tryz.zeroValue350
  g0:=by kernel_rfl
  g6:=by kernel_rfl }
open Go.RowKit Go.Lib in
theorem Tryz.strings_Fields (s : ByteArray) (w : World) (hs : s.size < 4294967281) (hascii : ∀ (j : Nat) b, s.data.toList[j]? = some b → b.toNat < 128) (htab : Lib.TabIs Tryz.prog w "strings.asciiSpace" .u8 Lib.asciiSpaceTab) :
    Calls Tryz.prog 186 #[.string s] w fun e w' =>
      e = .returned (.slice (some ⟨w.heap.size, 0, none⟩) (Lib.fields s.data.toList).length (Lib.fields s.data.toList).length) ∧ w' = w.alloc (.cells ((Lib.fields s.data.toList).map fun l => Value.string ⟨l.toArray⟩).toArray 9):=Any.strings_Fields Tryz.lays157 (by kernel_rfl) (by kernel_rfl) s w hs hascii htab
def Tryz.lays151_ren : Go.Shelf.Ren:=⟨fun | 151 => 119 | 152 => 177 | 137 => 123 | 119 => 214 | 224 => 215 | 225 => 216 | 217 => 180 | 266 => 217 | n => n, fun | 9 => 9 | 21 => 21 | 4 => 4 | 3 => 3 | 5 => 5 | 0 => 0 | 46 => 132 | n => n, fun | n => n⟩
theorem Tryz.lays151 : Go.Proofs.Lays.n151 Tryz.prog Tryz.lays151_ren:={
  mixed:=by kernel_rfl
  f119:=Tryz.func214.trans (congrArg some (by kernel_rfl))
  f137:=Tryz.func123.trans (congrArg some (by kernel_rfl))
  f151:=Tryz.func119.trans (congrArg some (by kernel_rfl))
  f152:=Tryz.func177.trans (congrArg some (by kernel_rfl))
  f217:=Tryz.func180.trans (congrArg some (by kernel_rfl))
  f224:=Tryz.func215.trans (congrArg some (by kernel_rfl))
  f225:=Tryz.func216.trans (congrArg some (by kernel_rfl))
  f266:=Tryz.func217.trans (congrArg some (by kernel_rfl))
  t0:=Tryz.underlying0
  a0:=Tryz.isAgg0
  z0:=Tryz.sizeOf0
  v0:=Tryz.zeroValue0
  t3:=Tryz.underlying3
  a3:=Tryz.isAgg3
  z3:=Tryz.sizeOf3
  v3:=Tryz.zeroValue3
  t4:=Tryz.underlying4
  a4:=Tryz.isAgg4
  z4:=Tryz.sizeOf4
  v4:=Tryz.zeroValue4
  t5:=Tryz.underlying5
  a5:=Tryz.isAgg5
  z5:=Tryz.sizeOf5
  v5:=Tryz.zeroValue5
  t9:=Tryz.underlying9
  a9:=Tryz.isAgg9
  z9:=Tryz.sizeOf9
  v9:=Tryz.zeroValue9
  t21:=Tryz.underlying21
  a21:=Tryz.isAgg21
  z21:=Tryz.sizeOf21
  v21:=Tryz.zeroValue21
  t46:=Tryz.underlying132
  a46:=Tryz.isAgg132
  z46:=Tryz.sizeOf132
  v46:=Tryz.zeroValue132 }
open Go.RowKit Go.Lib in
theorem Tryz.strings_ContainsRune_ascii (s : ByteArray) (r : Int) (w : World) (h0 : 0 ≤ r) (h1 : r < 128) :
    Calls Tryz.prog 119 #[.string s, .int .i32 r] w fun e w' => e = .returned (.bool (decide (0 ≤ Lib.indexByte s.data.toList r.toNat.toUInt8))) ∧ w' = w:=Any.strings_ContainsRune_ascii Tryz.lays151 s r w h0 h1
def Tryz.lays150_ren : Go.Shelf.Ren:=⟨fun | 150 => 157 | 153 => 207 | 152 => 177 | 226 => 240 | 227 => 71 | 228 => 117 | 137 => 123 | 119 => 214 | 224 => 215 | 225 => 216 | 217 => 180 | 266 => 217 | n => n, fun | 9 => 9 | 4 => 4 | 3 => 3 | 5 => 5 | 21 => 21 | 117 => 148 | 116 => 147 | 0 => 0 | 46 => 132 | 124 => 151 | n => n, fun | n => n⟩
theorem Tryz.lays150 : Go.Proofs.Lays.n150 Tryz.prog Tryz.lays150_ren:={
  mixed:=by kernel_rfl
  f119:=Tryz.func214.trans (congrArg some (by kernel_rfl))
  f137:=Tryz.func123.trans (congrArg some (by kernel_rfl))
  f150:=Tryz.func157.trans (congrArg some (by kernel_rfl))
  f152:=Tryz.func177.trans (congrArg some (by kernel_rfl))
  f153:=Tryz.func207.trans (congrArg some (by kernel_rfl))
  f217:=Tryz.func180.trans (congrArg some (by kernel_rfl))
  f224:=Tryz.func215.trans (congrArg some (by kernel_rfl))
  f225:=Tryz.func216.trans (congrArg some (by kernel_rfl))
  f226:=Tryz.func240.trans (congrArg some (by kernel_rfl))
  f227:=Tryz.func71.trans (congrArg some (by kernel_rfl))
  f228:=Tryz.func117.trans (congrArg some (by kernel_rfl))
  f266:=Tryz.func217.trans (congrArg some (by kernel_rfl))
  t0:=Tryz.underlying0
  a0:=Tryz.isAgg0
  z0:=Tryz.sizeOf0
  v0:=Tryz.zeroValue0
  t3:=Tryz.underlying3
  a3:=Tryz.isAgg3
  z3:=Tryz.sizeOf3
  v3:=Tryz.zeroValue3
  t4:=Tryz.underlying4
  a4:=Tryz.isAgg4
  z4:=Tryz.sizeOf4
  v4:=Tryz.zeroValue4
  t5:=Tryz.underlying5
  a5:=Tryz.isAgg5
  z5:=Tryz.sizeOf5
  v5:=Tryz.zeroValue5
  t9:=Tryz.underlying9
  a9:=Tryz.isAgg9
  z9:=Tryz.sizeOf9
  v9:=Tryz.zeroValue9
  t21:=Tryz.underlying21
  a21:=Tryz.isAgg21
  z21:=Tryz.sizeOf21
  v21:=Tryz.zeroValue21
  t46:=Tryz.underlying132
  a46:=Tryz.isAgg132
  z46:=Tryz.sizeOf132
  v46:=Tryz.zeroValue132
  t116:=Tryz.underlying147
  a116:=Tryz.isAgg147
  z116:=Tryz.sizeOf147
  t117:=Tryz.underlying148
  a117:=Tryz.isAgg148
  z117:=Tryz.sizeOf148
  v117:=Tryz.zeroValue148
  t124:=Tryz.underlying151
  a124:=Tryz.isAgg151
  z124:=Tryz.sizeOf151
  v124:=Tryz.zeroValue151 }
open Go.RowKit Go.Lib in
theorem Tryz.strings_ContainsAny_laid (s chars : ByteArray) (w : World) (hs : s.size < 4294967281) (hcs : chars.size < 4294967281) (has : ∀ (j : Nat) b, s.data.toList[j]? = some b → b.toNat < 128) (hac : ∀ (j : Nat) b, chars.data.toList[j]? = some b → b.toNat < 128) :
    Calls Tryz.prog 157 #[.string s, .string chars] w fun e w' => e = .returned (.bool (Lib.containsAny s.data.toList chars.data.toList)) ∧ Below w.heap.size w w':=Any.strings_ContainsAny_laid Tryz.lays150 (by kernel_rfl) s chars w hs hcs has hac
def Tryz.lays212_ren : Go.Shelf.Ren:=⟨fun | 212 => 63 | 263 => 112 | 264 => 113 | n => n, fun | 46 => 132 | 51 => 196 | 146 => 197 | 53 => 199 | 148 => 200 | n => n, fun | n => n⟩
theorem Tryz.lays212 : Go.Proofs.Lays.n212 Tryz.prog Tryz.lays212_ren:={
  mixed:=by kernel_rfl
  f212:=Tryz.func63.trans (congrArg some (by kernel_rfl))
  f263:=Tryz.func112.trans (congrArg some (by kernel_rfl))
  f264:=Tryz.func113.trans (congrArg some (by kernel_rfl))
  t46:=Tryz.underlying132
  a46:=Tryz.isAgg132
  z46:=Tryz.sizeOf132
  v46:=Tryz.zeroValue132
  t51:=Tryz.underlying196
  a51:=Tryz.isAgg196
  z51:=Tryz.sizeOf196
  v51:=Tryz.zeroValue196
  t53:=Tryz.underlying199
  a53:=Tryz.isAgg199
  z53:=Tryz.sizeOf199
  v53:=Tryz.zeroValue199
  t146:=Tryz.underlying197
  a146:=Tryz.isAgg197
  z146:=Tryz.sizeOf197
  v146:=Tryz.zeroValue197
  t148:=Tryz.underlying200
  a148:=Tryz.isAgg200
  z148:=Tryz.sizeOf200
  v148:=Tryz.zeroValue200 }
open Go.RowKit Go.Lib in
theorem Tryz.bits_Mul (x y : Nat) (hx : x < 18446744073709551616) (hy : y < 18446744073709551616) (w : World) :
    Calls Tryz.prog 63 #[.int .u64 x, .int .u64 y] w fun e w' => e = .returned (.tuple #[.int .u64 ((x * y / 18446744073709551616 : Nat) : Int), .int .u64 ((x * y % 18446744073709551616 : Nat) : Int)]) ∧ w' = w:=Any.bits_Mul Tryz.lays212 x y hx hy w
def Tryz.lays105_ren : Go.Shelf.Ren:=⟨fun | 105 => 29 | 212 => 63 | 99 => 64 | 165 => 65 | 166 => 66 | 170 => 67 | 169 => 68 | 263 => 112 | 264 => 113 | 206 => 114 | 240 => 115 | 241 => 116 | 276 => 175 | 277 => 124 | n => n, fun | 9 => 9 | 3 => 3 | 4 => 4 | 20 => 20 | 0 => 0 | 46 => 132 | 109 => 133 | 5 => 5 | 72 => 137 | 76 => 141 | 51 => 196 | 146 => 197 | 53 => 199 | 148 => 200 | 70 => 135 | 37 => 22 | 75 => 140 | 127 => 202 | 164 => 253 | 80 => 144 | n => n, fun | n => n⟩
theorem Tryz.lays105 : Go.Proofs.Lays.n105 Tryz.prog Tryz.lays105_ren:={
  mixed:=by kernel_rfl
  f99:=Tryz.func64.trans (congrArg some (by kernel_rfl))
  f105:=Tryz.func29.trans (congrArg some (by kernel_rfl))
  f165:=Tryz.func65.trans (congrArg some (by kernel_rfl))
  f166:=Tryz.func66.trans (congrArg some (by kernel_rfl))
  f169:=Tryz.func68.trans (congrArg some (by kernel_rfl))
  f170:=Tryz.func67.trans (congrArg some (by kernel_rfl))
  f206:=Tryz.func114.trans (congrArg some (by kernel_rfl))
  f212:=Tryz.func63.trans (congrArg some (by kernel_rfl))
  f240:=Tryz.func115.trans (congrArg some (by kernel_rfl))
  f241:=Tryz.func116.trans (congrArg some (by kernel_rfl))
  f263:=Tryz.func112.trans (congrArg some (by kernel_rfl))
  f264:=Tryz.func113.trans (congrArg some (by kernel_rfl))
  f276:=Tryz.func175.trans (congrArg some (by kernel_rfl))
  f277:=Tryz.func124.trans (congrArg some (by kernel_rfl))
  t0:=Tryz.underlying0
  a0:=Tryz.isAgg0
  z0:=Tryz.sizeOf0
  v0:=Tryz.zeroValue0
  t3:=Tryz.underlying3
  a3:=Tryz.isAgg3
  z3:=Tryz.sizeOf3
  v3:=Tryz.zeroValue3
  t4:=Tryz.underlying4
  a4:=Tryz.isAgg4
  z4:=Tryz.sizeOf4
  v4:=Tryz.zeroValue4
  t5:=Tryz.underlying5
  a5:=Tryz.isAgg5
  z5:=Tryz.sizeOf5
  v5:=Tryz.zeroValue5
  t9:=Tryz.underlying9
  a9:=Tryz.isAgg9
  z9:=Tryz.sizeOf9
  v9:=Tryz.zeroValue9
  t20:=Tryz.underlying20
  a20:=Tryz.isAgg20
  z20:=Tryz.sizeOf20
  v20:=Tryz.zeroValue20
  t37:=Tryz.underlying22
  a37:=Tryz.isAgg22
  z37:=Tryz.sizeOf22
  v37:=Tryz.zeroValue22
  t46:=Tryz.underlying132
  a46:=Tryz.isAgg132
  z46:=Tryz.sizeOf132
  v46:=Tryz.zeroValue132
  t51:=Tryz.underlying196
  a51:=Tryz.isAgg196
  z51:=Tryz.sizeOf196
  v51:=Tryz.zeroValue196
  t53:=Tryz.underlying199
  a53:=Tryz.isAgg199
  z53:=Tryz.sizeOf199
  v53:=Tryz.zeroValue199
  t70:=Tryz.underlying135
  a70:=Tryz.isAgg135
  z70:=Tryz.sizeOf135
  v70:=Tryz.zeroValue135
  t72:=Tryz.underlying137
  a72:=Tryz.isAgg137
  z72:=Tryz.sizeOf137
  v72:=Tryz.zeroValue137
  t75:=Tryz.underlying140
  a75:=Tryz.isAgg140
  z75:=Tryz.sizeOf140
  v75:=Tryz.zeroValue140
  t76:=Tryz.underlying141
  a76:=Tryz.isAgg141
  z76:=Tryz.sizeOf141
  v76:=Tryz.zeroValue141
  t109:=Tryz.underlying133
  a109:=Tryz.isAgg133
  z109:=Tryz.sizeOf133
  v109:=Tryz.zeroValue133
  t127:=Tryz.underlying202
  a127:=Tryz.isAgg202
  z127:=Tryz.sizeOf202
  v127:=Tryz.zeroValue202
  t146:=Tryz.underlying197
  a146:=Tryz.isAgg197
  z146:=Tryz.sizeOf197
  v146:=Tryz.zeroValue197
  t148:=Tryz.underlying200
  a148:=Tryz.isAgg200
  z148:=Tryz.sizeOf200
  v148:=Tryz.zeroValue200
  t164:=Tryz.underlying253
  a164:=Tryz.isAgg253
  z164:=Tryz.sizeOf253
  v164:=Tryz.zeroValue253 }
theorem Tryz.Builder_Extra_105 : Builder.Extra Tryz.prog Tryz.lays105_ren:={
  sizeBuilder:=by kernel_rfl
  liesBuilder:=by kernel_rfl
  t5:=Tryz.underlying5
  a5:=Tryz.isAgg5
  z5:=Tryz.sizeOf5
  v5:=Tryz.zeroValue5
  infoByte:=by kernel_rfl
  cellsByte:=by kernel_rfl
  sizeByte:=by kernel_rfl
  neB5:=by decide }
open Go.RowKit Go.Lib in
theorem Tryz.strings_Repeat (s : ByteArray) (c : Nat) (w : World) (hc : c ≤ 9223372036854775807) (hlen : s.size * c ≤ 140737488355328) :
    Calls Tryz.prog 29 #[.string s, .int .i64 c] w fun e w' => e = .returned (.string ⟨(Lib.repeatL s.data.toList c).toArray⟩) ∧ Below w.heap.size w w':=Any.strings_Repeat Tryz.lays105 Tryz.Builder_Extra_105 s c w hc hlen
end Go.Proofs
