/-
  Contracts of the library functions that the law reaches.
-/
import Derived.Shelf.Strings.Builder1
import Derived.Shelf.Strings.Builder2
import Derived.Shelf.Strings.Trim
import Derived.Shelf.Small.Utf8
import Derived.Shelf.Small.Strs
import Derived.Shelf.Small.Wraps
import Derived.Shelf.Strings.BuilderF
import Derived.Shelf.Strings.BuilderK
import Derived.Shelf.Strings.BuilderRune
import Derived.Shelf.Strings.Builder2Cap
import Derived.Shelf.Strconv.Atoi
import Derived.Shelf.Strconv.Itoa0
import Derived.Shelf.Strconv.Itoa1
import Derived.Shelf.LaysM
import Derived.Shelf.Strconv.Itoa2
import Derived.Shelf.Strconv.Itoa3
import Derived.Shelf.Strconv.Itoa4
import Derived.Shelf.Strconv.ParseIntEmpty
import Derived.Shelf.Strconv.Clone
import Derived.Shelf.Strconv.SyntaxError
import Derived.Shelf.LaysC
import Derived.Shelf.Strconv.ToError
import Derived.Shelf.Strconv.Lower
import Derived.Shelf.Strconv.ParseUint10
import Derived.Shelf.Strconv.ParseUint10Empty
import Derived.Shelf.Strconv.ParseUint10Any
import Derived.Shelf.Strconv.ParseInt10
import Derived.Shelf.Strconv.RangeError
import Derived.Shelf.Strconv.ToErrorRange
import Derived.Shelf.Strconv.ParseUintEmpty
import Derived.Shelf.Strconv.ParseUint10b64
import Derived.Shelf.Strconv.ParseUint10b32
import Derived.Shelf.Strconv.ParseUint10b16
import Derived.Shelf.Strconv.ParseUint10b8
import Derived.Shelf.Strconv.ParseUint10At
import Derived.Shelf.Strings.Search1
import Derived.Shelf.Strings.Search2
import Derived.Shelf.Strings.Search3
import Derived.Shelf.Strings.Cut
import Derived.Shelf.Strings.Count
import Derived.Shelf.Strings.Shaped
import Derived.Shelf.GgClosure.StringsIndexFunc
import Derived.Shelf.Strings.Prefix
import Derived.Shelf.Strings.Fields
import Derived.Shelf.Unicode.Latin
import Derived.Shelf.Strings.Runes
import Derived.Shelf.Strings.IndexAny
import Derived.Shelf.Strings.AsciiSet
import Derived.Shelf.Strings.IndexAnyAll
import Derived.Shelf.Bits.Mul64
import Derived.Shelf.Strings.Repeat
import Derived.Shelf.Unicode.DecodeSlow
import Derived.Shelf.Unicode.DecodeAny
import Derived.Shelf.Strings.MapAny
import Derived.Shelf.Strings.BuilderCap
import Derived.Shelf.Strings.MapGrows
import Derived.Shelf.Bytes.SlIndexSmall
import Derived.Shelf.Bytes.SlIndexAt
import Derived.Shelf.Bytes.SlSearch0
import Derived.Shelf.Bytes.SlSearch1
import Derived.Shelf.Bytes.SlSearch2
import Derived.Shelf.Bytes.SlIndexWhole
import Derived.Shelf.Bytes.SlSmallAll
import Derived.Shelf.Bytes.SlEqualAll
import Derived.Shelf.Bytes.Small
import Derived.Shelf.Bytes.IndexByte
import Derived.Test.YtgehgjniceckfaaGreatDoorProg
namespace Go.Proofs
open Go.Shelf
def Tryz.lays161_ren : Go.Shelf.Ren:=⟨fun | 161 => 151 | 231 => 193 | 227 => 194 | 233 => 195 | 235 => 196 | 228 => 245 | 197 => 244 | 151 => 224 | 260 => 287 | 152 => 264 | 137 => 258 | 119 => 292 | 224 => 140 | 225 => 211 | 217 => 210 | 266 => 254 | n => n, fun | 9 => 9 | 4 => 4 | 3 => 3 | 5 => 5 | 117 => 284 | 116 => 283 | 0 => 0 | 124 => 287 | 105 => 330 | 21 => 21 | 119 => 277 | 46 => 190 | 139 => 371 | 138 => 370 | n => n, fun | 3 => 6 | 4 => 7 | n => n⟩
theorem Tryz.lays161 : Go.Proofs.Lays.n161 Tryz.prog Tryz.lays161_ren:={
  mixed:=by kernel_rfl
  f119:=Tryz.func292.trans (congrArg some (by kernel_rfl))
  f137:=Tryz.func258.trans (congrArg some (by kernel_rfl))
  f151:=Tryz.func224.trans (congrArg some (by kernel_rfl))
  f152:=Tryz.func264.trans (congrArg some (by kernel_rfl))
  f161:=Tryz.func151.trans (congrArg some (by kernel_rfl))
  f197:=Tryz.func244.trans (congrArg some (by kernel_rfl))
  f217:=Tryz.func210.trans (congrArg some (by kernel_rfl))
  f224:=Tryz.func140.trans (congrArg some (by kernel_rfl))
  f225:=Tryz.func211.trans (congrArg some (by kernel_rfl))
  f227:=Tryz.func194.trans (congrArg some (by kernel_rfl))
  f228:=Tryz.func245.trans (congrArg some (by kernel_rfl))
  f231:=Tryz.func193.trans (congrArg some (by kernel_rfl))
  f233:=Tryz.func195.trans (congrArg some (by kernel_rfl))
  f235:=Tryz.func196.trans (congrArg some (by kernel_rfl))
  f260:=Tryz.func287.trans (congrArg some (by kernel_rfl))
  f266:=Tryz.func254.trans (congrArg some (by kernel_rfl))
  t0:=Tryz.underlying0
  a0:=Tryz.isAgg0
  z0:=Tryz.sizeOf0
  v0:=Tryz.zeroValue0
  t3:=Tryz.underlying3
  a3:=Tryz.isAgg3
  z3:=Tryz.sizeOf3
  v3:=Tryz.zeroValue3
  t4:=Tryz.underlying4
  a4:=Tryz.isAgg4
  z4:=Tryz.sizeOf4
  v4:=Tryz.zeroValue4
  t5:=Tryz.underlying5
  a5:=Tryz.isAgg5
  z5:=Tryz.sizeOf5
  v5:=Tryz.zeroValue5
  t9:=Tryz.underlying9
  a9:=Tryz.isAgg9
  z9:=Tryz.sizeOf9
  v9:=Tryz.zeroValue9
  t21:=Tryz.underlying21
  a21:=Tryz.isAgg21
  z21:=Tryz.sizeOf21
  v21:=Tryz.zeroValue21
  t46:=Tryz.underlying190
  a46:=Tryz.isAgg190
  z46:=Tryz.sizeOf190
  v46:=Tryz.zeroValue190
  t105:=Tryz.underlying330
  a105:=Tryz.isAgg330
  z105:=Tryz.sizeOf330
  v105:=Tryz.zeroValue330
  t116:=Tryz.underlying283
  a116:=Tryz.isAgg283
  z116:=Tryz.sizeOf283
  t117:=Tryz.underlying284
  a117:=Tryz.isAgg284
  z117:=Tryz.sizeOf284
  v117:=Tryz.zeroValue284
  t119:=Tryz.underlying277
  a119:=Tryz.isAgg277
  z119:=Tryz.sizeOf277
  t124:=Tryz.underlying287
  a124:=Tryz.isAgg287
  z124:=Tryz.sizeOf287
  v124:=Tryz.zeroValue287
  t138:=Tryz.underlying370
  a138:=Tryz.isAgg370
  z138:=Tryz.sizeOf370
  v138:=Tryz.zeroValue370
  t139:=Tryz.underlying371
  a139:=Tryz.isAgg371
  z139:=Tryz.sizeOf371
  v139:=Tryz.zeroValue371
  g3:=by kernel_rfl
  g4:=by kernel_rfl }
def Tryz.lays162_ren : Go.Shelf.Ren:=⟨fun | 162 => 198 | 232 => 236 | 227 => 194 | 234 => 237 | 236 => 238 | 228 => 245 | 271 => 280 | 151 => 224 | 120 => 296 | 197 => 244 | 152 => 264 | 260 => 287 | 137 => 258 | 119 => 292 | 224 => 140 | 225 => 211 | 217 => 210 | 266 => 254 | n => n, fun | 9 => 9 | 4 => 4 | 3 => 3 | 5 => 5 | 117 => 284 | 116 => 283 | 0 => 0 | 124 => 287 | 21 => 21 | 105 => 330 | 46 => 190 | 119 => 277 | 139 => 371 | 138 => 370 | n => n, fun | 3 => 6 | 4 => 7 | n => n⟩
theorem Tryz.lays162 : Go.Proofs.Lays.n162 Tryz.prog Tryz.lays162_ren:={
  mixed:=by kernel_rfl
  f119:=Tryz.func292.trans (congrArg some (by kernel_rfl))
  f120:=Tryz.func296.trans (congrArg some (by kernel_rfl))
  f137:=Tryz.func258.trans (congrArg some (by kernel_rfl))
  f151:=Tryz.func224.trans (congrArg some (by kernel_rfl))
  f152:=Tryz.func264.trans (congrArg some (by kernel_rfl))
  f162:=Tryz.func198.trans (congrArg some (by kernel_rfl))
  f197:=Tryz.func244.trans (congrArg some (by kernel_rfl))
  f217:=Tryz.func210.trans (congrArg some (by kernel_rfl))
  f224:=Tryz.func140.trans (congrArg some (by kernel_rfl))
  f225:=Tryz.func211.trans (congrArg some (by kernel_rfl))
  f227:=Tryz.func194.trans (congrArg some (by kernel_rfl))
  f228:=Tryz.func245.trans (congrArg some (by kernel_rfl))
  f232:=Tryz.func236.trans (congrArg some (by kernel_rfl))
  f234:=Tryz.func237.trans (congrArg some (by kernel_rfl))
  f236:=Tryz.func238.trans (congrArg some (by kernel_rfl))
  f260:=Tryz.func287.trans (congrArg some (by kernel_rfl))
  f266:=Tryz.func254.trans (congrArg some (by kernel_rfl))
  f271:=Tryz.func280.trans (congrArg some (by kernel_rfl))
  t0:=Tryz.underlying0
  a0:=Tryz.isAgg0
  z0:=Tryz.sizeOf0
  v0:=Tryz.zeroValue0
  t3:=Tryz.underlying3
  a3:=Tryz.isAgg3
  z3:=Tryz.sizeOf3
  v3:=Tryz.zeroValue3
  t4:=Tryz.underlying4
  a4:=Tryz.isAgg4
  z4:=Tryz.sizeOf4
  v4:=Tryz.zeroValue4
  t5:=Tryz.underlying5
  a5:=Tryz.isAgg5
  z5:=Tryz.sizeOf5
  v5:=Tryz.zeroValue5
  t9:=Tryz.underlying9
  a9:=Tryz.isAgg9
  z9:=Tryz.sizeOf9
  v9:=Tryz.zeroValue9
  t21:=Tryz.underlying21
  a21:=Tryz.isAgg21
  z21:=Tryz.sizeOf21
  v21:=Tryz.zeroValue21
  t46:=Tryz.underlying190
  a46:=Tryz.isAgg190
  z46:=Tryz.sizeOf190
  v46:=Tryz.zeroValue190
  t105:=Tryz.underlying330
  a105:=Tryz.isAgg330
  z105:=Tryz.sizeOf330
  v105:=Tryz.zeroValue330
  t116:=Tryz.underlying283
  a116:=Tryz.isAgg283
  z116:=Tryz.sizeOf283
  t117:=Tryz.underlying284
  a117:=Tryz.isAgg284
  z117:=Tryz.sizeOf284
  v117:=Tryz.zeroValue284
  t119:=Tryz.underlying277
  a119:=Tryz.isAgg277
  z119:=Tryz.sizeOf277
  t124:=Tryz.underlying287
  a124:=Tryz.isAgg287
  z124:=Tryz.sizeOf287
  v124:=Tryz.zeroValue287
  t138:=Tryz.underlying370
  a138:=Tryz.isAgg370
  z138:=Tryz.sizeOf370
  v138:=Tryz.zeroValue370
  t139:=Tryz.underlying371
  a139:=Tryz.isAgg371
  z139:=Tryz.sizeOf371
  v139:=Tryz.zeroValue371
  g3:=by kernel_rfl
  g4:=by kernel_rfl }
def Tryz.lays160_ren : Go.Shelf.Ren:=⟨fun | 160 => 180 | 232 => 236 | 231 => 193 | 227 => 194 | 234 => 237 | 233 => 195 | 236 => 238 | 235 => 196 | 228 => 245 | 271 => 280 | 151 => 224 | 197 => 244 | 120 => 296 | 152 => 264 | 260 => 287 | 137 => 258 | 119 => 292 | 224 => 140 | 225 => 211 | 217 => 210 | 266 => 254 | n => n, fun | 9 => 9 | 4 => 4 | 3 => 3 | 5 => 5 | 117 => 284 | 116 => 283 | 0 => 0 | 124 => 287 | 21 => 21 | 105 => 330 | 46 => 190 | 119 => 277 | 139 => 371 | 138 => 370 | n => n, fun | 3 => 6 | 4 => 7 | n => n⟩
theorem Tryz.lays160 : Go.Proofs.Lays.n160 Tryz.prog Tryz.lays160_ren:={
  mixed:=by kernel_rfl
  f119:=Tryz.func292.trans (congrArg some (by kernel_rfl))
  f120:=Tryz.func296.trans (congrArg some (by kernel_rfl))
  f137:=Tryz.func258.trans (congrArg some (by kernel_rfl))
  f151:=Tryz.func224.trans (congrArg some (by kernel_rfl))
  f152:=Tryz.func264.trans (congrArg some (by kernel_rfl))
  f160:=Tryz.func180.trans (congrArg some (by kernel_rfl))
  f197:=Tryz.func244.trans (congrArg some (by kernel_rfl))
  f217:=Tryz.func210.trans (congrArg some (by kernel_rfl))
  f224:=Tryz.func140.trans (congrArg some (by kernel_rfl))
  f225:=Tryz.func211.trans (congrArg some (by kernel_rfl))
  f227:=Tryz.func194.trans (congrArg some (by kernel_rfl))
  f228:=Tryz.func245.trans (congrArg some (by kernel_rfl))
  f231:=Tryz.func193.trans (congrArg some (by kernel_rfl))
  f232:=Tryz.func236.trans (congrArg some (by kernel_rfl))
  f233:=Tryz.func195.trans (congrArg some (by kernel_rfl))
  f234:=Tryz.func237.trans (congrArg some (by kernel_rfl))
  f235:=Tryz.func196.trans (congrArg some (by kernel_rfl))
  f236:=Tryz.func238.trans (congrArg some (by kernel_rfl))
  f260:=Tryz.func287.trans (congrArg some (by kernel_rfl))
  f266:=Tryz.func254.trans (congrArg some (by kernel_rfl))
  f271:=Tryz.func280.trans (congrArg some (by kernel_rfl))
  t0:=Tryz.underlying0
  a0:=Tryz.isAgg0
  z0:=Tryz.sizeOf0
  v0:=Tryz.zeroValue0
  t3:=Tryz.underlying3
  a3:=Tryz.isAgg3
  z3:=Tryz.sizeOf3
  v3:=Tryz.zeroValue3
  t4:=Tryz.underlying4
  a4:=Tryz.isAgg4
  z4:=Tryz.sizeOf4
  v4:=Tryz.zeroValue4
  t5:=Tryz.underlying5
  a5:=Tryz.isAgg5
  z5:=Tryz.sizeOf5
  v5:=Tryz.zeroValue5
  t9:=Tryz.underlying9
  a9:=Tryz.isAgg9
  z9:=Tryz.sizeOf9
  v9:=Tryz.zeroValue9
  t21:=Tryz.underlying21
  a21:=Tryz.isAgg21
  z21:=Tryz.sizeOf21
  v21:=Tryz.zeroValue21
  t46:=Tryz.underlying190
  a46:=Tryz.isAgg190
  z46:=Tryz.sizeOf190
  v46:=Tryz.zeroValue190
  t105:=Tryz.underlying330
  a105:=Tryz.isAgg330
  z105:=Tryz.sizeOf330
  v105:=Tryz.zeroValue330
  t116:=Tryz.underlying283
  a116:=Tryz.isAgg283
  z116:=Tryz.sizeOf283
  t117:=Tryz.underlying284
  a117:=Tryz.isAgg284
  z117:=Tryz.sizeOf284
  v117:=Tryz.zeroValue284
  t119:=Tryz.underlying277
  a119:=Tryz.isAgg277
  z119:=Tryz.sizeOf277
  t124:=Tryz.underlying287
  a124:=Tryz.isAgg287
  z124:=Tryz.sizeOf287
  v124:=Tryz.zeroValue287
  t138:=Tryz.underlying370
  a138:=Tryz.isAgg370
  z138:=Tryz.sizeOf370
  v138:=Tryz.zeroValue370
  t139:=Tryz.underlying371
  a139:=Tryz.isAgg371
  z139:=Tryz.sizeOf371
  v139:=Tryz.zeroValue371
  g3:=by kernel_rfl
  g4:=by kernel_rfl }
def Tryz.lays118_ren : Go.Shelf.Ren:=⟨fun | 118 => 261 | n => n, fun | 21 => 21 | 3 => 3 | 4 => 4 | n => n, fun | n => n⟩
theorem Tryz.lays118 : Go.Proofs.Lays.n118 Tryz.prog Tryz.lays118_ren:={
  mixed:=by kernel_rfl
  f118:=Tryz.func261.trans (congrArg some (by kernel_rfl))
  t3:=Tryz.underlying3
  a3:=Tryz.isAgg3
  z3:=Tryz.sizeOf3
  v3:=Tryz.zeroValue3
  t4:=Tryz.underlying4
  a4:=Tryz.isAgg4
  z4:=Tryz.sizeOf4
  v4:=Tryz.zeroValue4
  t21:=Tryz.underlying21
  a21:=Tryz.isAgg21
  z21:=Tryz.sizeOf21
  v21:=Tryz.zeroValue21 }
theorem Tryz.utf8_RuneLen (r : Int) (w : World) :
    Calls Tryz.prog 261 #[.int .i32 r] w fun e w' => e = .returned (.int .i64 (Lib.runeLen r)) ∧ w' = w:=Any.utf8_RuneLen Tryz.lays118 r w
def Tryz.lays137_ren : Go.Shelf.Ren:=⟨fun | 137 => 258 | 217 => 210 | 266 => 254 | n => n, fun | 9 => 9 | 5 => 5 | 3 => 3 | n => n, fun | n => n⟩
theorem Tryz.lays137 : Go.Proofs.Lays.n137 Tryz.prog Tryz.lays137_ren:={
  mixed:=by kernel_rfl
  f137:=Tryz.func258.trans (congrArg some (by kernel_rfl))
  f217:=Tryz.func210.trans (congrArg some (by kernel_rfl))
  f266:=Tryz.func254.trans (congrArg some (by kernel_rfl))
  t3:=Tryz.underlying3
  a3:=Tryz.isAgg3
  z3:=Tryz.sizeOf3
  v3:=Tryz.zeroValue3
  t5:=Tryz.underlying5
  a5:=Tryz.isAgg5
  z5:=Tryz.sizeOf5
  v5:=Tryz.zeroValue5
  t9:=Tryz.underlying9
  a9:=Tryz.isAgg9
  z9:=Tryz.sizeOf9
  v9:=Tryz.zeroValue9 }
open Go.RowKit in
theorem Tryz.strings_IndexByte (s : ByteArray) (c : Int) (w : World) :
    Calls Tryz.prog 258 #[.string s, .int .u8 c] w fun e w' => e = .returned (.int .i64 (Lib.indexByte s.data.toList c.toNat.toUInt8)) ∧ w' = w:=Any.strings_IndexByte Tryz.lays137 s c w
def Tryz.lays103_ren : Go.Shelf.Ren:=⟨fun | 103 => 128 | 210 => 176 | 206 => 156 | n => n, fun | 9 => 9 | 4 => 4 | 24 => 216 | 3 => 3 | n => n, fun | n => n⟩
theorem Tryz.lays103 : Go.Proofs.Lays.n103 Tryz.prog Tryz.lays103_ren:={
  mixed:=by kernel_rfl
  f103:=Tryz.func128.trans (congrArg some (by kernel_rfl))
  f206:=Tryz.func156.trans (congrArg some (by kernel_rfl))
  f210:=Tryz.func176.trans (congrArg some (by kernel_rfl))
  t3:=Tryz.underlying3
  a3:=Tryz.isAgg3
  z3:=Tryz.sizeOf3
  v3:=Tryz.zeroValue3
  t4:=Tryz.underlying4
  a4:=Tryz.isAgg4
  z4:=Tryz.sizeOf4
  v4:=Tryz.zeroValue4
  t9:=Tryz.underlying9
  a9:=Tryz.isAgg9
  z9:=Tryz.sizeOf9
  v9:=Tryz.zeroValue9
  t24:=Tryz.underlying216
  a24:=Tryz.isAgg216
  z24:=Tryz.sizeOf216
  v24:=Tryz.zeroValue216 }
open Go.RowKit in
theorem Tryz.strings_CutPrefix (s p : ByteArray) (w : World) :
    Calls Tryz.prog 128 #[.string s, .string p] w fun e w' => e = .returned (.tuple #[.string ⟨(Lib.trimPrefix s.data.toList p.data.toList).toArray⟩, .bool (Lib.hasPrefix s.data.toList p.data.toList)]) ∧ w' = w:=Any.strings_CutPrefix Tryz.lays103 s p w
def Tryz.lays104_ren : Go.Shelf.Ren:=⟨fun | 104 => 221 | 211 => 260 | 207 => 191 | n => n, fun | 9 => 9 | 4 => 4 | 24 => 216 | 3 => 3 | n => n, fun | n => n⟩
theorem Tryz.lays104 : Go.Proofs.Lays.n104 Tryz.prog Tryz.lays104_ren:={
  mixed:=by kernel_rfl
  f104:=Tryz.func221.trans (congrArg some (by kernel_rfl))
  f207:=Tryz.func191.trans (congrArg some (by kernel_rfl))
  f211:=Tryz.func260.trans (congrArg some (by kernel_rfl))
  t3:=Tryz.underlying3
  a3:=Tryz.isAgg3
  z3:=Tryz.sizeOf3
  v3:=Tryz.zeroValue3
  t4:=Tryz.underlying4
  a4:=Tryz.isAgg4
  z4:=Tryz.sizeOf4
  v4:=Tryz.zeroValue4
  t9:=Tryz.underlying9
  a9:=Tryz.isAgg9
  z9:=Tryz.sizeOf9
  v9:=Tryz.zeroValue9
  t24:=Tryz.underlying216
  a24:=Tryz.isAgg216
  z24:=Tryz.sizeOf216
  v24:=Tryz.zeroValue216 }
open Go.RowKit in
theorem Tryz.strings_CutSuffix (s p : ByteArray) (w : World) (hs : s.size ≤ 9223372036854775807) :
    Calls Tryz.prog 221 #[.string s, .string p] w fun e w' => e = .returned (.tuple #[.string ⟨(Lib.trimSuffix s.data.toList p.data.toList).toArray⟩, .bool (Lib.hasSuffix s.data.toList p.data.toList)]) ∧ w' = w:=Any.strings_CutSuffix Tryz.lays104 s p w hs
def Tryz.lays172_ren : Go.Shelf.Ren:=⟨fun | 172 => 256 | 244 => 288 | 245 => 289 | 247 => 299 | 279 => 300 | 280 => 301 | 281 => 302 | 282 => 303 | 287 => 305 | 316 => 306 | 171 => 174 | 205 => 307 | 321 => 308 | 322 => 309 | 243 => 229 | 246 => 177 | 283 => 230 | 284 => 231 | 285 => 232 | 286 => 233 | 129 => 276 | 317 => 275 | 318 => 277 | 319 => 278 | 320 => 279 | 337 => 294 | 338 => 295 | n => n, fun | 9 => 9 | 3 => 3 | 75 => 199 | 76 => 200 | 4 => 4 | 5 => 5 | 167 => 372 | 37 => 22 | 0 => 0 | 85 => 373 | 2 => 2 | 168 => 375 | 53 => 248 | 175 => 380 | 46 => 190 | 210 => 383 | 127 => 251 | 145 => 388 | 143 => 386 | 21 => 21 | 171 => 311 | 173 => 314 | 212 => 344 | 51 => 245 | 20 => 20 | 213 => 345 | 232 => 378 | 233 => 379 | 80 => 203 | n => n, fun | 15 => 10 | 16 => 11 | 17 => 4 | 18 => 8 | 19 => 9 | n => n⟩
theorem Tryz.lays172 : Go.Proofs.Lays.n172 Tryz.prog Tryz.lays172_ren:={
  mixed:=by kernel_rfl
  f129:=Tryz.func276.trans (congrArg some (by kernel_rfl))
  f171:=Tryz.func174.trans (congrArg some (by kernel_rfl))
  f172:=Tryz.func256.trans (congrArg some (by kernel_rfl))
  f205:=Tryz.func307.trans (congrArg some (by kernel_rfl))
  f243:=Tryz.func229.trans (congrArg some (by kernel_rfl))
  f244:=Tryz.func288.trans (congrArg some (by kernel_rfl))
  f245:=Tryz.func289.trans (congrArg some (by kernel_rfl))
  f246:=Tryz.func177.trans (congrArg some (by kernel_rfl))
  f247:=Tryz.func299.trans (congrArg some (by kernel_rfl))
  f279:=Tryz.func300.trans (congrArg some (by kernel_rfl))
  f280:=Tryz.func301.trans (congrArg some (by kernel_rfl))
  f281:=Tryz.func302.trans (congrArg some (by kernel_rfl))
  f282:=Tryz.func303.trans (congrArg some (by kernel_rfl))
  f283:=Tryz.func230.trans (congrArg some (by kernel_rfl))
  f284:=Tryz.func231.trans (congrArg some (by kernel_rfl))
  f285:=Tryz.func232.trans (congrArg some (by kernel_rfl))
  f286:=Tryz.func233.trans (congrArg some (by kernel_rfl))
  f287:=Tryz.func305.trans (congrArg some (by kernel_rfl))
  f316:=Tryz.func306.trans (congrArg some (by kernel_rfl))
  f317:=Tryz.func275.trans (congrArg some (by kernel_rfl))
  f318:=Tryz.func277.trans (congrArg some (by kernel_rfl))
  f319:=Tryz.func278.trans (congrArg some (by kernel_rfl))
  f320:=Tryz.func279.trans (congrArg some (by kernel_rfl))
  f321:=Tryz.func308.trans (congrArg some (by kernel_rfl))
  f322:=Tryz.func309.trans (congrArg some (by kernel_rfl))
  f337:=Tryz.func294.trans (congrArg some (by kernel_rfl))
  f338:=Tryz.func295.trans (congrArg some (by kernel_rfl))
  t0:=Tryz.underlying0
  a0:=Tryz.isAgg0
  z0:=Tryz.sizeOf0
  v0:=Tryz.zeroValue0
  t2:=Tryz.underlying2
  a2:=Tryz.isAgg2
  z2:=Tryz.sizeOf2
  v2:=Tryz.zeroValue2
  t3:=Tryz.underlying3
  a3:=Tryz.isAgg3
  z3:=Tryz.sizeOf3
  v3:=Tryz.zeroValue3
  t4:=Tryz.underlying4
  a4:=Tryz.isAgg4
  z4:=Tryz.sizeOf4
  v4:=Tryz.zeroValue4
  t5:=Tryz.underlying5
  a5:=Tryz.isAgg5
  z5:=Tryz.sizeOf5
  v5:=Tryz.zeroValue5
  t9:=Tryz.underlying9
  a9:=Tryz.isAgg9
  z9:=Tryz.sizeOf9
  v9:=Tryz.zeroValue9
  t20:=Tryz.underlying20
  a20:=Tryz.isAgg20
  z20:=Tryz.sizeOf20
  v20:=Tryz.zeroValue20
  t21:=Tryz.underlying21
  a21:=Tryz.isAgg21
  z21:=Tryz.sizeOf21
  v21:=Tryz.zeroValue21
  t37:=Tryz.underlying22
  a37:=Tryz.isAgg22
  z37:=Tryz.sizeOf22
  v37:=Tryz.zeroValue22
  t46:=Tryz.underlying190
  a46:=Tryz.isAgg190
  z46:=Tryz.sizeOf190
  v46:=Tryz.zeroValue190
  t51:=Tryz.underlying245
  a51:=Tryz.isAgg245
  z51:=Tryz.sizeOf245
  v51:=Tryz.zeroValue245
  t53:=Tryz.underlying248
  a53:=Tryz.isAgg248
  z53:=Tryz.sizeOf248
  v53:=Tryz.zeroValue248
  t75:=Tryz.underlying199
  a75:=Tryz.isAgg199
  z75:=Tryz.sizeOf199
  v75:=Tryz.zeroValue199
  t76:=Tryz.underlying200
  a76:=Tryz.isAgg200
  z76:=Tryz.sizeOf200
  v76:=Tryz.zeroValue200
  t85:=Tryz.underlying373
  a85:=Tryz.isAgg373
  z85:=Tryz.sizeOf373
  v85:=Tryz.zeroValue373
  t127:=Tryz.underlying251
  a127:=Tryz.isAgg251
  z127:=Tryz.sizeOf251
  v127:=Tryz.zeroValue251
  t143:=Tryz.underlying386
  a143:=Tryz.isAgg386
  z143:=Tryz.sizeOf386
  v143:=Tryz.zeroValue386
  t145:=Tryz.underlying388
  a145:=Tryz.isAgg388
  z145:=Tryz.sizeOf388
  v145:=Tryz.zeroValue388
  t167:=Tryz.underlying372
  a167:=Tryz.isAgg372
  z167:=Tryz.sizeOf372
  v167:=Tryz.zeroValue372
  t168:=Tryz.underlying375
  a168:=Tryz.isAgg375
  z168:=Tryz.sizeOf375
  v168:=Tryz.zeroValue375
  t171:=Tryz.underlying311
  a171:=Tryz.isAgg311
  z171:=Tryz.sizeOf311
  v171:=Tryz.zeroValue311
  t173:=Tryz.underlying314
  a173:=Tryz.isAgg314
  z173:=Tryz.sizeOf314
  v173:=Tryz.zeroValue314
  t175:=Tryz.underlying380
  a175:=Tryz.isAgg380
  z175:=Tryz.sizeOf380
  v175:=Tryz.zeroValue380
  t210:=Tryz.underlying383
  a210:=Tryz.isAgg383
  z210:=Tryz.sizeOf383
  v210:=Tryz.zeroValue383
  t212:=Tryz.underlying344
  a212:=Tryz.isAgg344
  z212:=Tryz.sizeOf344
  v212:=Tryz.zeroValue344
  t213:=Tryz.underlying345
  a213:=Tryz.isAgg345
  z213:=Tryz.sizeOf345
  t232:=Tryz.underlying378
  a232:=Tryz.isAgg378
  z232:=Tryz.sizeOf378
  v232:=Tryz.zeroValue378
  t233:=Tryz.underlying379
  a233:=Tryz.isAgg379
  z233:=Tryz.sizeOf379
  v233:=Tryz.zeroValue379
  g15:=by kernel_rfl
  g16:=by kernel_rfl
  g17:=by kernel_rfl
  g18:=by kernel_rfl
  g19:=by kernel_rfl }
open Go.RowKit in
theorem Tryz.strconv_Atoi (s : ByteArray) (n : Int) (hl : s.size ≤ 18) (h : Lib.atoi s.data.toList = some n) (w : World) :
    Calls Tryz.prog 256 #[.string s] w fun e w' => e = .returned (.tuple #[.int .i64 n, .nilIface]) ∧ ∃ t, w' = Lib.bytesWorld w 5 t:=Any.strconv_Atoi Tryz.lays172 s n hl h w
def Tryz.laysM171_ren : Go.Shelf.Ren:=⟨fun | 171 => 174 | 243 => 229 | 246 => 177 | 283 => 230 | 284 => 231 | 285 => 232 | 286 => 233 | 129 => 276 | 317 => 275 | 318 => 277 | 319 => 278 | 320 => 279 | 337 => 294 | 338 => 295 | n => n, fun | 3 => 3 | 9 => 9 | 2 => 2 | 4 => 4 | 171 => 311 | 0 => 0 | 53 => 248 | 37 => 22 | 5 => 5 | 173 => 314 | 212 => 344 | 51 => 245 | 20 => 20 | 213 => 345 | 46 => 190 | 232 => 378 | 233 => 379 | n => n, fun | 17 => 4 | 18 => 8 | 19 => 9 | n => n⟩
theorem Tryz.laysM171 : Go.Proofs.LaysM.n171 Tryz.prog Tryz.laysM171_ren:={
  mixed:=by kernel_rfl
  f129:=Tryz.func276.trans (congrArg some (by kernel_rfl))
  f171:=Tryz.func174.trans (congrArg some (by kernel_rfl))
  f243:=Tryz.func229.trans (congrArg some (by kernel_rfl))
  f246:=Tryz.func177.trans (congrArg some (by kernel_rfl))
  f283:=Tryz.func230.trans (congrArg some (by kernel_rfl))
  f284:=Tryz.func231.trans (congrArg some (by kernel_rfl))
  f285:=Tryz.func232.trans (congrArg some (by kernel_rfl))
  f286:=Tryz.func233.trans (congrArg some (by kernel_rfl))
  f317:=Tryz.func275.trans (congrArg some (by kernel_rfl))
  f318:=Tryz.func277.trans (congrArg some (by kernel_rfl))
  f319:=Tryz.func278.trans (congrArg some (by kernel_rfl))
  f320:=Tryz.func279.trans (congrArg some (by kernel_rfl))
  f337:=Tryz.func294.trans (congrArg some (by kernel_rfl))
  f338:=Tryz.func295.trans (congrArg some (by kernel_rfl))
  t0:=Tryz.underlying0
  a0:=Tryz.isAgg0
  z0:=Tryz.sizeOf0
  v0:=Tryz.zeroValue0
  t2:=Tryz.underlying2
  a2:=Tryz.isAgg2
  z2:=Tryz.sizeOf2
  v2:=Tryz.zeroValue2
  t3:=Tryz.underlying3
  a3:=Tryz.isAgg3
  z3:=Tryz.sizeOf3
  v3:=Tryz.zeroValue3
  t4:=Tryz.underlying4
  a4:=Tryz.isAgg4
  z4:=Tryz.sizeOf4
  v4:=Tryz.zeroValue4
  t5:=Tryz.underlying5
  a5:=Tryz.isAgg5
  z5:=Tryz.sizeOf5
  v5:=Tryz.zeroValue5
  t9:=Tryz.underlying9
  a9:=Tryz.isAgg9
  z9:=Tryz.sizeOf9
  v9:=Tryz.zeroValue9
  t20:=Tryz.underlying20
  a20:=Tryz.isAgg20
  z20:=Tryz.sizeOf20
  v20:=Tryz.zeroValue20
  t37:=Tryz.underlying22
  a37:=Tryz.isAgg22
  z37:=Tryz.sizeOf22
  v37:=Tryz.zeroValue22
  t46:=Tryz.underlying190
  a46:=Tryz.isAgg190
  z46:=Tryz.sizeOf190
  v46:=Tryz.zeroValue190
  t51:=Tryz.underlying245
  a51:=Tryz.isAgg245
  z51:=Tryz.sizeOf245
  v51:=Tryz.zeroValue245
  t53:=Tryz.underlying248
  a53:=Tryz.isAgg248
  z53:=Tryz.sizeOf248
  v53:=Tryz.zeroValue248
  t171:=Tryz.underlying311
  a171:=Tryz.isAgg311
  z171:=Tryz.sizeOf311
  v171:=Tryz.zeroValue311
  t173:=Tryz.underlying314
  a173:=Tryz.isAgg314
  z173:=Tryz.sizeOf314
  v173:=Tryz.zeroValue314
  t212:=Tryz.underlying344
  a212:=Tryz.isAgg344
  z212:=Tryz.sizeOf344
  v212:=Tryz.zeroValue344
  t213:=Tryz.underlying345
  a213:=Tryz.isAgg345
  z213:=Tryz.sizeOf345
  t232:=Tryz.underlying378
  a232:=Tryz.isAgg378
  z232:=Tryz.sizeOf378
  v232:=Tryz.zeroValue378
  t233:=Tryz.underlying379
  a233:=Tryz.isAgg379
  z233:=Tryz.sizeOf379
  v233:=Tryz.zeroValue379
  g17:=by kernel_rfl
  g18:=by kernel_rfl
  g19:=by kernel_rfl
  i0:=by kernel_rfl
  i2:=by kernel_rfl
  i3:=by kernel_rfl
  i4:=by kernel_rfl
  i5:=by kernel_rfl
  i9:=by kernel_rfl
  i20:=by kernel_rfl
  i37:=by kernel_rfl
  i46:=by kernel_rfl
  i51:=by kernel_rfl
  i53:=by kernel_rfl
  i171:=by kernel_rfl
  i173:=by kernel_rfl
  i212:=by kernel_rfl
  i232:=by kernel_rfl
  i233:=by kernel_rfl
  m17:=by kernel_rfl
  m18:=by kernel_rfl
  m19:=by kernel_rfl }
open Go.RowKit Go.Sort Go.Lib in
theorem Tryz.strconv_Itoa (n : Int) (h0 : -9223372036854775808 ≤ n) (h1 : n ≤ 9223372036854775807) (w : World) (htab : Lib.TabIs Tryz.prog w "internal/strconv.uint64pow10" .u64 Lib.pow10Tab) :
    Calls Tryz.prog 174 #[.int .i64 n] w fun e w' => e = .returned (.string ⟨(Lib.itoa n).toArray⟩) ∧ ∃ k os, w' = grow (w.drewN k) os:=Any.strconv_Itoa Tryz.laysM171 n h0 h1 w htab
def Tryz.laysM173_ren : Go.Shelf.Ren:=⟨fun | 173 => 129 | 246 => 177 | 283 => 230 | 284 => 231 | 285 => 232 | 286 => 233 | 129 => 276 | 317 => 275 | 318 => 277 | 319 => 278 | 320 => 279 | 337 => 294 | 338 => 295 | n => n, fun | 2 => 2 | 3 => 3 | 9 => 9 | 4 => 4 | 171 => 311 | 0 => 0 | 53 => 248 | 37 => 22 | 5 => 5 | 173 => 314 | 212 => 344 | 51 => 245 | 20 => 20 | 213 => 345 | 46 => 190 | 232 => 378 | 233 => 379 | n => n, fun | 17 => 4 | 18 => 8 | 19 => 9 | n => n⟩
theorem Tryz.laysM173 : Go.Proofs.LaysM.n173 Tryz.prog Tryz.laysM173_ren:={
  mixed:=by kernel_rfl
  f129:=Tryz.func276.trans (congrArg some (by kernel_rfl))
  f173:=Tryz.func129.trans (congrArg some (by kernel_rfl))
  f246:=Tryz.func177.trans (congrArg some (by kernel_rfl))
  f283:=Tryz.func230.trans (congrArg some (by kernel_rfl))
  f284:=Tryz.func231.trans (congrArg some (by kernel_rfl))
  f285:=Tryz.func232.trans (congrArg some (by kernel_rfl))
  f286:=Tryz.func233.trans (congrArg some (by kernel_rfl))
  f317:=Tryz.func275.trans (congrArg some (by kernel_rfl))
  f318:=Tryz.func277.trans (congrArg some (by kernel_rfl))
  f319:=Tryz.func278.trans (congrArg some (by kernel_rfl))
  f320:=Tryz.func279.trans (congrArg some (by kernel_rfl))
  f337:=Tryz.func294.trans (congrArg some (by kernel_rfl))
  f338:=Tryz.func295.trans (congrArg some (by kernel_rfl))
  t0:=Tryz.underlying0
  a0:=Tryz.isAgg0
  z0:=Tryz.sizeOf0
  v0:=Tryz.zeroValue0
  t2:=Tryz.underlying2
  a2:=Tryz.isAgg2
  z2:=Tryz.sizeOf2
  v2:=Tryz.zeroValue2
  t3:=Tryz.underlying3
  a3:=Tryz.isAgg3
  z3:=Tryz.sizeOf3
  v3:=Tryz.zeroValue3
  t4:=Tryz.underlying4
  a4:=Tryz.isAgg4
  z4:=Tryz.sizeOf4
  v4:=Tryz.zeroValue4
  t5:=Tryz.underlying5
  a5:=Tryz.isAgg5
  z5:=Tryz.sizeOf5
  v5:=Tryz.zeroValue5
  t9:=Tryz.underlying9
  a9:=Tryz.isAgg9
  z9:=Tryz.sizeOf9
  v9:=Tryz.zeroValue9
  t20:=Tryz.underlying20
  a20:=Tryz.isAgg20
  z20:=Tryz.sizeOf20
  v20:=Tryz.zeroValue20
  t37:=Tryz.underlying22
  a37:=Tryz.isAgg22
  z37:=Tryz.sizeOf22
  v37:=Tryz.zeroValue22
  t46:=Tryz.underlying190
  a46:=Tryz.isAgg190
  z46:=Tryz.sizeOf190
  v46:=Tryz.zeroValue190
  t51:=Tryz.underlying245
  a51:=Tryz.isAgg245
  z51:=Tryz.sizeOf245
  v51:=Tryz.zeroValue245
  t53:=Tryz.underlying248
  a53:=Tryz.isAgg248
  z53:=Tryz.sizeOf248
  v53:=Tryz.zeroValue248
  t171:=Tryz.underlying311
  a171:=Tryz.isAgg311
  z171:=Tryz.sizeOf311
  v171:=Tryz.zeroValue311
  t173:=Tryz.underlying314
  a173:=Tryz.isAgg314
  z173:=Tryz.sizeOf314
  v173:=Tryz.zeroValue314
  t212:=Tryz.underlying344
  a212:=Tryz.isAgg344
  z212:=Tryz.sizeOf344
  v212:=Tryz.zeroValue344
  t213:=Tryz.underlying345
  a213:=Tryz.isAgg345
  z213:=Tryz.sizeOf345
  t232:=Tryz.underlying378
  a232:=Tryz.isAgg378
  z232:=Tryz.sizeOf378
  v232:=Tryz.zeroValue378
  t233:=Tryz.underlying379
  a233:=Tryz.isAgg379
  z233:=Tryz.sizeOf379
  v233:=Tryz.zeroValue379
  g17:=by kernel_rfl
  g18:=by kernel_rfl
  g19:=by kernel_rfl
  i0:=by kernel_rfl
  i2:=by kernel_rfl
  i3:=by kernel_rfl
  i4:=by kernel_rfl
  i5:=by kernel_rfl
  i9:=by kernel_rfl
  i20:=by kernel_rfl
  i37:=by kernel_rfl
  i46:=by kernel_rfl
  i51:=by kernel_rfl
  i53:=by kernel_rfl
  i171:=by kernel_rfl
  i173:=by kernel_rfl
  i212:=by kernel_rfl
  i232:=by kernel_rfl
  i233:=by kernel_rfl
  m17:=by kernel_rfl
  m18:=by kernel_rfl
  m19:=by kernel_rfl }
open Go.RowKit Go.Sort Go.Lib in
theorem Tryz.strconv_FormatInt_10 (n : Int) (h0 : -9223372036854775808 ≤ n) (h1 : n ≤ 9223372036854775807) (w : World) (htab : Lib.TabIs Tryz.prog w "internal/strconv.uint64pow10" .u64 Lib.pow10Tab) :
    Calls Tryz.prog 129 #[.int .i64 n, .int .i64 10] w fun e w' => e = .returned (.string ⟨(Lib.itoa n).toArray⟩) ∧ ∃ k os, w' = grow (w.drewN k) os:=Any.strconv_FormatInt_10 Tryz.laysM173 n h0 h1 w htab
def Tryz.lays144_ren : Go.Shelf.Ren:=⟨fun | 144 => 251 | 143 => 190 | 219 => 157 | 217 => 210 | 225 => 211 | 224 => 140 | 267 => 212 | 266 => 254 | 314 => 255 | n => n, fun | 9 => 9 | 4 => 4 | 3 => 3 | 5 => 5 | 46 => 190 | 146 => 246 | 51 => 245 | n => n, fun | 1 => 0 | n => n⟩
theorem Tryz.lays144 : Go.Proofs.Lays.n144 Tryz.prog Tryz.lays144_ren:={
  mixed:=by kernel_rfl
  f143:=Tryz.func190.trans (congrArg some (by kernel_rfl))
  f144:=Tryz.func251.trans (congrArg some (by kernel_rfl))
  f217:=Tryz.func210.trans (congrArg some (by kernel_rfl))
  f219:=Tryz.func157.trans (congrArg some (by kernel_rfl))
  f224:=Tryz.func140.trans (congrArg some (by kernel_rfl))
  f225:=Tryz.func211.trans (congrArg some (by kernel_rfl))
  f266:=Tryz.func254.trans (congrArg some (by kernel_rfl))
  f267:=Tryz.func212.trans (congrArg some (by kernel_rfl))
  f314:=Tryz.func255.trans (congrArg some (by kernel_rfl))
  t3:=Tryz.underlying3
  a3:=Tryz.isAgg3
  z3:=Tryz.sizeOf3
  v3:=Tryz.zeroValue3
  t4:=Tryz.underlying4
  a4:=Tryz.isAgg4
  z4:=Tryz.sizeOf4
  v4:=Tryz.zeroValue4
  t5:=Tryz.underlying5
  a5:=Tryz.isAgg5
  z5:=Tryz.sizeOf5
  v5:=Tryz.zeroValue5
  t9:=Tryz.underlying9
  a9:=Tryz.isAgg9
  z9:=Tryz.sizeOf9
  v9:=Tryz.zeroValue9
  t46:=Tryz.underlying190
  a46:=Tryz.isAgg190
  z46:=Tryz.sizeOf190
  v46:=Tryz.zeroValue190
  t51:=Tryz.underlying245
  a51:=Tryz.isAgg245
  z51:=Tryz.sizeOf245
  v51:=Tryz.zeroValue245
  t146:=Tryz.underlying246
  a146:=Tryz.isAgg246
  z146:=Tryz.sizeOf246
  v146:=Tryz.zeroValue246
  g1:=by kernel_rfl }
open Go.RowKit Go.Lib in
theorem Tryz.strings_Contains_one (s : ByteArray) (c : UInt8) (w : World) :
    Calls Tryz.prog 251 #[.string s, .string ⟨#[c]⟩] w fun e w' => e = .returned (.bool (decide (0 ≤ Lib.indexByte s.data.toList c))) ∧ w' = w:=Any.strings_Contains_one Tryz.lays144 s c w
def Tryz.lays145_ren : Go.Shelf.Ren:=⟨fun | 145 => 75 | 220 => 108 | 219 => 157 | 217 => 210 | 225 => 211 | 224 => 140 | 267 => 212 | 266 => 254 | 314 => 255 | n => n, fun | 9 => 9 | 4 => 4 | 59 => 144 | 3 => 3 | 5 => 5 | 46 => 190 | 146 => 246 | 51 => 245 | n => n, fun | 1 => 0 | n => n⟩
theorem Tryz.lays145 : Go.Proofs.Lays.n145 Tryz.prog Tryz.lays145_ren:={
  mixed:=by kernel_rfl
  f145:=Tryz.func75.trans (congrArg some (by kernel_rfl))
  f217:=Tryz.func210.trans (congrArg some (by kernel_rfl))
  f219:=Tryz.func157.trans (congrArg some (by kernel_rfl))
  f220:=Tryz.func108.trans (congrArg some (by kernel_rfl))
  f224:=Tryz.func140.trans (congrArg some (by kernel_rfl))
  f225:=Tryz.func211.trans (congrArg some (by kernel_rfl))
  f266:=Tryz.func254.trans (congrArg some (by kernel_rfl))
  f267:=Tryz.func212.trans (congrArg some (by kernel_rfl))
  f314:=Tryz.func255.trans (congrArg some (by kernel_rfl))
  t3:=Tryz.underlying3
  a3:=Tryz.isAgg3
  z3:=Tryz.sizeOf3
  v3:=Tryz.zeroValue3
  t4:=Tryz.underlying4
  a4:=Tryz.isAgg4
  z4:=Tryz.sizeOf4
  v4:=Tryz.zeroValue4
  t5:=Tryz.underlying5
  a5:=Tryz.isAgg5
  z5:=Tryz.sizeOf5
  v5:=Tryz.zeroValue5
  t9:=Tryz.underlying9
  a9:=Tryz.isAgg9
  z9:=Tryz.sizeOf9
  v9:=Tryz.zeroValue9
  t46:=Tryz.underlying190
  a46:=Tryz.isAgg190
  z46:=Tryz.sizeOf190
  v46:=Tryz.zeroValue190
  t51:=Tryz.underlying245
  a51:=Tryz.isAgg245
  z51:=Tryz.sizeOf245
  v51:=Tryz.zeroValue245
  t59:=Tryz.underlying144
  a59:=Tryz.isAgg144
  z59:=Tryz.sizeOf144
  v59:=Tryz.zeroValue144
  t146:=Tryz.underlying246
  a146:=Tryz.isAgg246
  z146:=Tryz.sizeOf246
  v146:=Tryz.zeroValue246
  g1:=by kernel_rfl }
open Go.RowKit Go.Lib in
theorem Tryz.strings_Cut (s sep : ByteArray) (m : Int) (w : World) (hs : s.size < 4294967281) (hm : w.cell? ⟨0, 0, none⟩ = some (.int .i64 m)) :
    Calls Tryz.prog 75 #[.string s, .string sep] w fun e w' => e = .returned (.tuple #[.string ⟨(Lib.cut s.data.toList sep.data.toList).1.toArray⟩, .string ⟨(Lib.cut s.data.toList sep.data.toList).2.1.toArray⟩, .bool (Lib.cut s.data.toList sep.data.toList).2.2]) ∧ ∃ n, w' = w.drewN n:=Any.strings_Cut Tryz.lays145 s sep m w hs hm
def Tryz.lays138_ren : Go.Shelf.Ren:=⟨fun | 138 => 162 | 195 => 214 | 218 => 215 | 143 => 190 | 219 => 157 | 217 => 210 | 225 => 211 | 224 => 140 | 267 => 212 | 266 => 254 | 314 => 255 | n => n, fun | 9 => 9 | 3 => 3 | 4 => 4 | 5 => 5 | 0 => 0 | 46 => 190 | 146 => 246 | 51 => 245 | n => n, fun | 1 => 0 | n => n⟩
theorem Tryz.lays138 : Go.Proofs.Lays.n138 Tryz.prog Tryz.lays138_ren:={
  mixed:=by kernel_rfl
  f138:=Tryz.func162.trans (congrArg some (by kernel_rfl))
  f143:=Tryz.func190.trans (congrArg some (by kernel_rfl))
  f195:=Tryz.func214.trans (congrArg some (by kernel_rfl))
  f217:=Tryz.func210.trans (congrArg some (by kernel_rfl))
  f218:=Tryz.func215.trans (congrArg some (by kernel_rfl))
  f219:=Tryz.func157.trans (congrArg some (by kernel_rfl))
  f224:=Tryz.func140.trans (congrArg some (by kernel_rfl))
  f225:=Tryz.func211.trans (congrArg some (by kernel_rfl))
  f266:=Tryz.func254.trans (congrArg some (by kernel_rfl))
  f267:=Tryz.func212.trans (congrArg some (by kernel_rfl))
  f314:=Tryz.func255.trans (congrArg some (by kernel_rfl))
  t0:=Tryz.underlying0
  a0:=Tryz.isAgg0
  z0:=Tryz.sizeOf0
  v0:=Tryz.zeroValue0
  t3:=Tryz.underlying3
  a3:=Tryz.isAgg3
  z3:=Tryz.sizeOf3
  v3:=Tryz.zeroValue3
  t4:=Tryz.underlying4
  a4:=Tryz.isAgg4
  z4:=Tryz.sizeOf4
  v4:=Tryz.zeroValue4
  t5:=Tryz.underlying5
  a5:=Tryz.isAgg5
  z5:=Tryz.sizeOf5
  v5:=Tryz.zeroValue5
  t9:=Tryz.underlying9
  a9:=Tryz.isAgg9
  z9:=Tryz.sizeOf9
  v9:=Tryz.zeroValue9
  t46:=Tryz.underlying190
  a46:=Tryz.isAgg190
  z46:=Tryz.sizeOf190
  v46:=Tryz.zeroValue190
  t51:=Tryz.underlying245
  a51:=Tryz.isAgg245
  z51:=Tryz.sizeOf245
  v51:=Tryz.zeroValue245
  t146:=Tryz.underlying246
  a146:=Tryz.isAgg246
  z146:=Tryz.sizeOf246
  v146:=Tryz.zeroValue246
  g1:=by kernel_rfl }
open Go.RowKit Go.Lib in
theorem Tryz.strings_Count_one (s : ByteArray) (c : UInt8) (w : World) :
    Calls Tryz.prog 162 #[.string s, .string ⟨#[c]⟩] w fun e w' => e = .returned (.int .i64 (Lib.countByte s.data.toList c)) ∧ w' = w:=Any.strings_Count_one Tryz.lays138 s c w
def Tryz.lays99_ren : Go.Shelf.Ren:=⟨fun | 99 => 112 | 206 => 156 | n => n, fun | 9 => 9 | 4 => 4 | 3 => 3 | n => n, fun | n => n⟩
theorem Tryz.lays99 : Go.Proofs.Lays.n99 Tryz.prog Tryz.lays99_ren:={
  mixed:=by kernel_rfl
  f99:=Tryz.func112.trans (congrArg some (by kernel_rfl))
  f206:=Tryz.func156.trans (congrArg some (by kernel_rfl))
  t3:=Tryz.underlying3
  a3:=Tryz.isAgg3
  z3:=Tryz.sizeOf3
  v3:=Tryz.zeroValue3
  t4:=Tryz.underlying4
  a4:=Tryz.isAgg4
  z4:=Tryz.sizeOf4
  v4:=Tryz.zeroValue4
  t9:=Tryz.underlying9
  a9:=Tryz.isAgg9
  z9:=Tryz.sizeOf9
  v9:=Tryz.zeroValue9 }
open Go.RowKit Go.Lib in
theorem Tryz.strings_HasPrefix (s p : ByteArray) (w : World) :
    Calls Tryz.prog 112 #[.string s, .string p] w fun e w' => e = .returned (.bool (Lib.hasPrefix s.data.toList p.data.toList)) ∧ w' = w:=Any.strings_HasPrefix Tryz.lays99 s p w
def Tryz.lays100_ren : Go.Shelf.Ren:=⟨fun | 100 => 171 | 207 => 191 | n => n, fun | 9 => 9 | 4 => 4 | 3 => 3 | n => n, fun | n => n⟩
theorem Tryz.lays100 : Go.Proofs.Lays.n100 Tryz.prog Tryz.lays100_ren:={
  mixed:=by kernel_rfl
  f100:=Tryz.func171.trans (congrArg some (by kernel_rfl))
  f207:=Tryz.func191.trans (congrArg some (by kernel_rfl))
  t3:=Tryz.underlying3
  a3:=Tryz.isAgg3
  z3:=Tryz.sizeOf3
  v3:=Tryz.zeroValue3
  t4:=Tryz.underlying4
  a4:=Tryz.isAgg4
  z4:=Tryz.sizeOf4
  v4:=Tryz.zeroValue4
  t9:=Tryz.underlying9
  a9:=Tryz.isAgg9
  z9:=Tryz.sizeOf9
  v9:=Tryz.zeroValue9 }
open Go.RowKit Go.Lib in
theorem Tryz.strings_HasSuffix (s p : ByteArray) (w : World) (hs : s.size ≤ 9223372036854775807) :
    Calls Tryz.prog 171 #[.string s, .string p] w fun e w' => e = .returned (.bool (Lib.hasSuffix s.data.toList p.data.toList)) ∧ w' = w:=Any.strings_HasSuffix Tryz.lays100 s p w hs
def Tryz.lays101_ren : Go.Shelf.Ren:=⟨fun | 101 => 74 | 208 => 107 | 206 => 156 | n => n, fun | 9 => 9 | 4 => 4 | 3 => 3 | n => n, fun | n => n⟩
theorem Tryz.lays101 : Go.Proofs.Lays.n101 Tryz.prog Tryz.lays101_ren:={
  mixed:=by kernel_rfl
  f101:=Tryz.func74.trans (congrArg some (by kernel_rfl))
  f206:=Tryz.func156.trans (congrArg some (by kernel_rfl))
  f208:=Tryz.func107.trans (congrArg some (by kernel_rfl))
  t3:=Tryz.underlying3
  a3:=Tryz.isAgg3
  z3:=Tryz.sizeOf3
  v3:=Tryz.zeroValue3
  t4:=Tryz.underlying4
  a4:=Tryz.isAgg4
  z4:=Tryz.sizeOf4
  v4:=Tryz.zeroValue4
  t9:=Tryz.underlying9
  a9:=Tryz.isAgg9
  z9:=Tryz.sizeOf9
  v9:=Tryz.zeroValue9 }
open Go.RowKit Go.Lib in
theorem Tryz.strings_TrimPrefix (s p : ByteArray) (w : World) :
    Calls Tryz.prog 74 #[.string s, .string p] w fun e w' => e = .returned (.string ⟨(Lib.trimPrefix s.data.toList p.data.toList).toArray⟩) ∧ w' = w:=Any.strings_TrimPrefix Tryz.lays101 s p w
def Tryz.lays102_ren : Go.Shelf.Ren:=⟨fun | 102 => 101 | 209 => 147 | 207 => 191 | n => n, fun | 9 => 9 | 4 => 4 | 3 => 3 | n => n, fun | n => n⟩
theorem Tryz.lays102 : Go.Proofs.Lays.n102 Tryz.prog Tryz.lays102_ren:={
  mixed:=by kernel_rfl
  f102:=Tryz.func101.trans (congrArg some (by kernel_rfl))
  f207:=Tryz.func191.trans (congrArg some (by kernel_rfl))
  f209:=Tryz.func147.trans (congrArg some (by kernel_rfl))
  t3:=Tryz.underlying3
  a3:=Tryz.isAgg3
  z3:=Tryz.sizeOf3
  v3:=Tryz.zeroValue3
  t4:=Tryz.underlying4
  a4:=Tryz.isAgg4
  z4:=Tryz.sizeOf4
  v4:=Tryz.zeroValue4
  t9:=Tryz.underlying9
  a9:=Tryz.isAgg9
  z9:=Tryz.sizeOf9
  v9:=Tryz.zeroValue9 }
open Go.RowKit Go.Lib in
theorem Tryz.strings_TrimSuffix (s p : ByteArray) (w : World) (hs : s.size ≤ 9223372036854775807) :
    Calls Tryz.prog 101 #[.string s, .string p] w fun e w' => e = .returned (.string ⟨(Lib.trimSuffix s.data.toList p.data.toList).toArray⟩) ∧ w' = w:=Any.strings_TrimSuffix Tryz.lays102 s p w hs
def Tryz.lays157_ren : Go.Shelf.Ren:=⟨fun | 157 => 143 | 229 => 187 | 199 => 188 | 261 => 243 | 311 => 285 | 312 => 286 | n => n, fun | 9 => 9 | 31 => 50 | 3 => 3 | 5 => 5 | 4 => 4 | 119 => 277 | 0 => 0 | 40 => 236 | 152 => 325 | 21 => 21 | 154 => 327 | 51 => 245 | 141 => 329 | 196 => 353 | 193 => 350 | 198 => 356 | 49 => 354 | 194 => 351 | 201 => 359 | 226 => 367 | 46 => 190 | 227 => 368 | n => n, fun | 0 => 1 | 6 => 2 | n => n⟩
theorem Tryz.lays157 : Go.Proofs.Lays.n157 Tryz.prog Tryz.lays157_ren:={
  mixed:=by kernel_rfl
  f157:=Tryz.func143.trans (congrArg some (by kernel_rfl))
  f199:=Tryz.func188.trans (congrArg some (by kernel_rfl))
  f229:=Tryz.func187.trans (congrArg some (by kernel_rfl))
  f261:=Tryz.func243.trans (congrArg some (by kernel_rfl))
  f311:=Tryz.func285.trans (congrArg some (by kernel_rfl))
  f312:=Tryz.func286.trans (congrArg some (by kernel_rfl))
  t0:=Tryz.underlying0
  a0:=Tryz.isAgg0
  z0:=Tryz.sizeOf0
  v0:=Tryz.zeroValue0
  t3:=Tryz.underlying3
  a3:=Tryz.isAgg3
  z3:=Tryz.sizeOf3
  v3:=Tryz.zeroValue3
  t4:=Tryz.underlying4
  a4:=Tryz.isAgg4
  z4:=Tryz.sizeOf4
  v4:=Tryz.zeroValue4
  t5:=Tryz.underlying5
  a5:=Tryz.isAgg5
  z5:=Tryz.sizeOf5
  v5:=Tryz.zeroValue5
  t9:=Tryz.underlying9
  a9:=Tryz.isAgg9
  z9:=Tryz.sizeOf9
  v9:=Tryz.zeroValue9
  t21:=Tryz.underlying21
  a21:=Tryz.isAgg21
  z21:=Tryz.sizeOf21
  v21:=Tryz.zeroValue21
  t31:=Tryz.underlying50
  a31:=Tryz.isAgg50
  z31:=Tryz.sizeOf50
  v31:=Tryz.zeroValue50
  t40:=Tryz.underlying236
  a40:=Tryz.isAgg236
  z40:=Tryz.sizeOf236
  v40:=Tryz.zeroValue236
  t46:=Tryz.underlying190
  a46:=Tryz.isAgg190
  z46:=Tryz.sizeOf190
  v46:=Tryz.zeroValue190
  t49:=Tryz.underlying354
  a49:=Tryz.isAgg354
  z49:=Tryz.sizeOf354
  v49:=Tryz.zeroValue354
  t51:=Tryz.underlying245
  a51:=Tryz.isAgg245
  z51:=Tryz.sizeOf245
  v51:=Tryz.zeroValue245
  t119:=Tryz.underlying277
  a119:=Tryz.isAgg277
  z119:=Tryz.sizeOf277
  t141:=Tryz.underlying329
  a141:=Tryz.isAgg329
  z141:=Tryz.sizeOf329
  v141:=Tryz.zeroValue329
  t152:=Tryz.underlying325
  a152:=Tryz.isAgg325
  z152:=Tryz.sizeOf325
  v152:=Tryz.zeroValue325
  t154:=Tryz.underlying327
  a154:=Tryz.isAgg327
  z154:=Tryz.sizeOf327
  v154:=Tryz.zeroValue327
  t193:=Tryz.underlying350
  a193:=Tryz.isAgg350
  z193:=Tryz.sizeOf350
  v193:=Tryz.zeroValue350
  t194:=Tryz.underlying351
  a194:=Tryz.isAgg351
  z194:=Tryz.sizeOf351
  v194:=Tryz.zeroValue351
  t196:=Tryz.underlying353
  a196:=Tryz.isAgg353
  z196:=Tryz.sizeOf353
  v196:=Tryz.zeroValue353
  t198:=Tryz.underlying356
  a198:=Tryz.isAgg356
  z198:=Tryz.sizeOf356
  v198:=Tryz.zeroValue356
  t201:=Tryz.underlying359
  a201:=Tryz.isAgg359
  z201:=Tryz.sizeOf359
  v201:=Tryz.zeroValue359
  t226:=Tryz.underlying367
  a226:=Tryz.isAgg367
  z226:=Tryz.sizeOf367
  v226:=Tryz.zeroValue367
  t227:=Tryz.underlying368
  a227:=Tryz.isAgg368
  z227:=Tryz.sizeOf368
  v227:=Tryz.zeroValue368
  g0:=by kernel_rfl
  g6:=by kernel_rfl }
open Go.RowKit Go.Lib in
theorem Tryz.strings_Fields (s : ByteArray) (w : World) (hs : s.size < 4294967281) (hascii : ∀ (j : Nat) b, s.data.toList[j]? = some b → b.toNat < 128) (htab : Lib.TabIs Tryz.prog w "strings.asciiSpace" .u8 Lib.asciiSpaceTab) :
    Calls Tryz.prog 143 #[.string s] w fun e w' =>
      e = .returned (.slice (some ⟨w.heap.size, 0, none⟩) (Lib.fields s.data.toList).length (Lib.fields s.data.toList).length) ∧ w' = w.alloc (.cells ((Lib.fields s.data.toList).map fun l => Value.string ⟨l.toArray⟩).toArray 9):=Any.strings_Fields Tryz.lays157 (by kernel_rfl) (by kernel_rfl) s w hs hascii htab
def Tryz.lays151_ren : Go.Shelf.Ren:=⟨fun | 151 => 224 | 152 => 264 | 137 => 258 | 119 => 292 | 224 => 140 | 225 => 211 | 217 => 210 | 266 => 254 | n => n, fun | 9 => 9 | 21 => 21 | 4 => 4 | 3 => 3 | 5 => 5 | 0 => 0 | 46 => 190 | n => n, fun | n => n⟩
theorem Tryz.lays151 : Go.Proofs.Lays.n151 Tryz.prog Tryz.lays151_ren:={
  mixed:=by kernel_rfl
  f119:=Tryz.func292.trans (congrArg some (by kernel_rfl))
  f137:=Tryz.func258.trans (congrArg some (by kernel_rfl))
  f151:=Tryz.func224.trans (congrArg some (by kernel_rfl))
  f152:=Tryz.func264.trans (congrArg some (by kernel_rfl))
  f217:=Tryz.func210.trans (congrArg some (by kernel_rfl))
  f224:=Tryz.func140.trans (congrArg some (by kernel_rfl))
  f225:=Tryz.func211.trans (congrArg some (by kernel_rfl))
  f266:=Tryz.func254.trans (congrArg some (by kernel_rfl))
  t0:=Tryz.underlying0
  a0:=Tryz.isAgg0
  z0:=Tryz.sizeOf0
  v0:=Tryz.zeroValue0
  t3:=Tryz.underlying3
  a3:=Tryz.isAgg3
  z3:=Tryz.sizeOf3
  v3:=Tryz.zeroValue3
  t4:=Tryz.underlying4
  a4:=Tryz.isAgg4
  z4:=Tryz.sizeOf4
  v4:=Tryz.zeroValue4
  t5:=Tryz.underlying5
  a5:=Tryz.isAgg5
  z5:=Tryz.sizeOf5
  v5:=Tryz.zeroValue5
  t9:=Tryz.underlying9
  a9:=Tryz.isAgg9
  z9:=Tryz.sizeOf9
  v9:=Tryz.zeroValue9
  t21:=Tryz.underlying21
  a21:=Tryz.isAgg21
  z21:=Tryz.sizeOf21
  v21:=Tryz.zeroValue21
  t46:=Tryz.underlying190
  a46:=Tryz.isAgg190
  z46:=Tryz.sizeOf190
  v46:=Tryz.zeroValue190 }
open Go.RowKit Go.Lib in
theorem Tryz.strings_ContainsRune_ascii (s : ByteArray) (r : Int) (w : World) (h0 : 0 ≤ r) (h1 : r < 128) :
    Calls Tryz.prog 224 #[.string s, .int .i32 r] w fun e w' => e = .returned (.bool (decide (0 ≤ Lib.indexByte s.data.toList r.toNat.toUInt8))) ∧ w' = w:=Any.strings_ContainsRune_ascii Tryz.lays151 s r w h0 h1
def Tryz.lays150_ren : Go.Shelf.Ren:=⟨fun | 150 => 219 | 153 => 259 | 152 => 264 | 226 => 290 | 227 => 194 | 228 => 245 | 137 => 258 | 119 => 292 | 224 => 140 | 225 => 211 | 217 => 210 | 266 => 254 | n => n, fun | 9 => 9 | 4 => 4 | 3 => 3 | 5 => 5 | 21 => 21 | 117 => 284 | 116 => 283 | 0 => 0 | 46 => 190 | 124 => 287 | n => n, fun | n => n⟩
theorem Tryz.lays150 : Go.Proofs.Lays.n150 Tryz.prog Tryz.lays150_ren:={
  mixed:=by kernel_rfl
  f119:=Tryz.func292.trans (congrArg some (by kernel_rfl))
  f137:=Tryz.func258.trans (congrArg some (by kernel_rfl))
  f150:=Tryz.func219.trans (congrArg some (by kernel_rfl))
  f152:=Tryz.func264.trans (congrArg some (by kernel_rfl))
  f153:=Tryz.func259.trans (congrArg some (by kernel_rfl))
  f217:=Tryz.func210.trans (congrArg some (by kernel_rfl))
  f224:=Tryz.func140.trans (congrArg some (by kernel_rfl))
  f225:=Tryz.func211.trans (congrArg some (by kernel_rfl))
  f226:=Tryz.func290.trans (congrArg some (by kernel_rfl))
  f227:=Tryz.func194.trans (congrArg some (by kernel_rfl))
  f228:=Tryz.func245.trans (congrArg some (by kernel_rfl))
  f266:=Tryz.func254.trans (congrArg some (by kernel_rfl))
  t0:=Tryz.underlying0
  a0:=Tryz.isAgg0
  z0:=Tryz.sizeOf0
  v0:=Tryz.zeroValue0
  t3:=Tryz.underlying3
  a3:=Tryz.isAgg3
  z3:=Tryz.sizeOf3
  v3:=Tryz.zeroValue3
  t4:=Tryz.underlying4
  a4:=Tryz.isAgg4
  z4:=Tryz.sizeOf4
  v4:=Tryz.zeroValue4
  t5:=Tryz.underlying5
  a5:=Tryz.isAgg5
  z5:=Tryz.sizeOf5
  v5:=Tryz.zeroValue5
  t9:=Tryz.underlying9
  a9:=Tryz.isAgg9
  z9:=Tryz.sizeOf9
  v9:=Tryz.zeroValue9
  t21:=Tryz.underlying21
  a21:=Tryz.isAgg21
  z21:=Tryz.sizeOf21
  v21:=Tryz.zeroValue21
  t46:=Tryz.underlying190
  a46:=Tryz.isAgg190
  z46:=Tryz.sizeOf190
  v46:=Tryz.zeroValue190
  t116:=Tryz.underlying283
  a116:=Tryz.isAgg283
  z116:=Tryz.sizeOf283
  t117:=Tryz.underlying284
  a117:=Tryz.isAgg284
  z117:=Tryz.sizeOf284
  v117:=Tryz.zeroValue284
  t124:=Tryz.underlying287
  a124:=Tryz.isAgg287
  z124:=Tryz.sizeOf287
  v124:=Tryz.zeroValue287 }
open Go.RowKit Go.Lib in
theorem Tryz.strings_ContainsAny_laid (s chars : ByteArray) (w : World) (hs : s.size < 4294967281) (hcs : chars.size < 4294967281) (has : ∀ (j : Nat) b, s.data.toList[j]? = some b → b.toNat < 128) (hac : ∀ (j : Nat) b, chars.data.toList[j]? = some b → b.toNat < 128) :
    Calls Tryz.prog 219 #[.string s, .string chars] w fun e w' => e = .returned (.bool (Lib.containsAny s.data.toList chars.data.toList)) ∧ Below w.heap.size w w':=Any.strings_ContainsAny_laid Tryz.lays150 (by kernel_rfl) s chars w hs hcs has hac
def Tryz.lays212_ren : Go.Shelf.Ren:=⟨fun | 212 => 111 | 263 => 158 | 264 => 159 | n => n, fun | 46 => 190 | 51 => 245 | 146 => 246 | 53 => 248 | 148 => 249 | n => n, fun | n => n⟩
theorem Tryz.lays212 : Go.Proofs.Lays.n212 Tryz.prog Tryz.lays212_ren:={
  mixed:=by kernel_rfl
  f212:=Tryz.func111.trans (congrArg some (by kernel_rfl))
  f263:=Tryz.func158.trans (congrArg some (by kernel_rfl))
  f264:=Tryz.func159.trans (congrArg some (by kernel_rfl))
  t46:=Tryz.underlying190
  a46:=Tryz.isAgg190
  z46:=Tryz.sizeOf190
  v46:=Tryz.zeroValue190
  t51:=Tryz.underlying245
  a51:=Tryz.isAgg245
  z51:=Tryz.sizeOf245
  v51:=Tryz.zeroValue245
  t53:=Tryz.underlying248
  a53:=Tryz.isAgg248
  z53:=Tryz.sizeOf248
  v53:=Tryz.zeroValue248
  t146:=Tryz.underlying246
  a146:=Tryz.isAgg246
  z146:=Tryz.sizeOf246
  v146:=Tryz.zeroValue246
  t148:=Tryz.underlying249
  a148:=Tryz.isAgg249
  z148:=Tryz.sizeOf249
  v148:=Tryz.zeroValue249 }
open Go.RowKit Go.Lib in
theorem Tryz.bits_Mul (x y : Nat) (hx : x < 18446744073709551616) (hy : y < 18446744073709551616) (w : World) :
    Calls Tryz.prog 111 #[.int .u64 x, .int .u64 y] w fun e w' => e = .returned (.tuple #[.int .u64 ((x * y / 18446744073709551616 : Nat) : Int), .int .u64 ((x * y % 18446744073709551616 : Nat) : Int)]) ∧ w' = w:=Any.bits_Mul Tryz.lays212 x y hx hy w
def Tryz.lays105_ren : Go.Shelf.Ren:=⟨fun | 105 => 77 | 212 => 111 | 99 => 112 | 165 => 113 | 166 => 114 | 170 => 115 | 169 => 116 | 263 => 158 | 264 => 159 | 206 => 156 | 240 => 160 | 241 => 161 | 276 => 213 | 277 => 138 | n => n, fun | 9 => 9 | 3 => 3 | 4 => 4 | 20 => 20 | 0 => 0 | 46 => 190 | 109 => 191 | 5 => 5 | 72 => 196 | 76 => 200 | 51 => 245 | 146 => 246 | 53 => 248 | 148 => 249 | 70 => 194 | 37 => 22 | 75 => 199 | 127 => 251 | 164 => 295 | 80 => 203 | n => n, fun | n => n⟩
theorem Tryz.lays105 : Go.Proofs.Lays.n105 Tryz.prog Tryz.lays105_ren:={
  mixed:=by kernel_rfl
  f99:=Tryz.func112.trans (congrArg some (by kernel_rfl))
  f105:=Tryz.func77.trans (congrArg some (by kernel_rfl))
  f165:=Tryz.func113.trans (congrArg some (by kernel_rfl))
  f166:=Tryz.func114.trans (congrArg some (by kernel_rfl))
  f169:=Tryz.func116.trans (congrArg some (by kernel_rfl))
  f170:=Tryz.func115.trans (congrArg some (by kernel_rfl))
  f206:=Tryz.func156.trans (congrArg some (by kernel_rfl))
  f212:=Tryz.func111.trans (congrArg some (by kernel_rfl))
  f240:=Tryz.func160.trans (congrArg some (by kernel_rfl))
  f241:=Tryz.func161.trans (congrArg some (by kernel_rfl))
  f263:=Tryz.func158.trans (congrArg some (by kernel_rfl))
  f264:=Tryz.func159.trans (congrArg some (by kernel_rfl))
  f276:=Tryz.func213.trans (congrArg some (by kernel_rfl))
  f277:=Tryz.func138.trans (congrArg some (by kernel_rfl))
  t0:=Tryz.underlying0
  a0:=Tryz.isAgg0
  z0:=Tryz.sizeOf0
  v0:=Tryz.zeroValue0
  t3:=Tryz.underlying3
  a3:=Tryz.isAgg3
  z3:=Tryz.sizeOf3
  v3:=Tryz.zeroValue3
  t4:=Tryz.underlying4
  a4:=Tryz.isAgg4
  z4:=Tryz.sizeOf4
  v4:=Tryz.zeroValue4
  t5:=Tryz.underlying5
  a5:=Tryz.isAgg5
  z5:=Tryz.sizeOf5
  v5:=Tryz.zeroValue5
  t9:=Tryz.underlying9
  a9:=Tryz.isAgg9
  z9:=Tryz.sizeOf9
  v9:=Tryz.zeroValue9
  t20:=Tryz.underlying20
  a20:=Tryz.isAgg20
  z20:=Tryz.sizeOf20
  v20:=Tryz.zeroValue20
  t37:=Tryz.underlying22
  a37:=Tryz.isAgg22
  z37:=Tryz.sizeOf22
  v37:=Tryz.zeroValue22
  t46:=Tryz.underlying190
  a46:=Tryz.isAgg190
  z46:=Tryz.sizeOf190
  v46:=Tryz.zeroValue190
  t51:=Tryz.underlying245
  a51:=Tryz.isAgg245
  z51:=Tryz.sizeOf245
  v51:=Tryz.zeroValue245
  t53:=Tryz.underlying248
  a53:=Tryz.isAgg248
  z53:=Tryz.sizeOf248
  v53:=Tryz.zeroValue248
  t70:=Tryz.underlying194
  a70:=Tryz.isAgg194
  z70:=Tryz.sizeOf194
  v70:=Tryz.zeroValue194
  t72:=Tryz.underlying196
  a72:=Tryz.isAgg196
  z72:=Tryz.sizeOf196
  v72:=Tryz.zeroValue196
  t75:=Tryz.underlying199
  a75:=Tryz.isAgg199
  z75:=Tryz.sizeOf199
  v75:=Tryz.zeroValue199
  t76:=Tryz.underlying200
  a76:=Tryz.isAgg200
  z76:=Tryz.sizeOf200
  v76:=Tryz.zeroValue200
  t109:=Tryz.underlying191
  a109:=Tryz.isAgg191
  z109:=Tryz.sizeOf191
  v109:=Tryz.zeroValue191
  t127:=Tryz.underlying251
  a127:=Tryz.isAgg251
  z127:=Tryz.sizeOf251
  v127:=Tryz.zeroValue251
  t146:=Tryz.underlying246
  a146:=Tryz.isAgg246
  z146:=Tryz.sizeOf246
  v146:=Tryz.zeroValue246
  t148:=Tryz.underlying249
  a148:=Tryz.isAgg249
  z148:=Tryz.sizeOf249
  v148:=Tryz.zeroValue249
  t164:=Tryz.underlying295
  a164:=Tryz.isAgg295
  z164:=Tryz.sizeOf295
  v164:=Tryz.zeroValue295 }
theorem Tryz.Builder_Extra_105 : Builder.Extra Tryz.prog Tryz.lays105_ren:={
  sizeBuilder:=by kernel_rfl
  liesBuilder:=by kernel_rfl
  t5:=Tryz.underlying5
  a5:=Tryz.isAgg5
  z5:=Tryz.sizeOf5
  v5:=Tryz.zeroValue5
  infoByte:=by kernel_rfl
  cellsByte:=by kernel_rfl
  sizeByte:=by kernel_rfl
  neB5:=by decide }
open Go.RowKit Go.Lib in
theorem Tryz.strings_Repeat (s : ByteArray) (c : Nat) (w : World) (hc : c ≤ 9223372036854775807) (hlen : s.size * c ≤ 140737488355328) :
    Calls Tryz.prog 77 #[.string s, .int .i64 c] w fun e w' => e = .returned (.string ⟨(Lib.repeatL s.data.toList c).toArray⟩) ∧ Below w.heap.size w w':=Any.strings_Repeat Tryz.lays105 Tryz.Builder_Extra_105 s c w hc hlen
def Tryz.lays185_ren : Go.Shelf.Ren:=⟨fun | 185 => 92 | 187 => 88 | 115 => 93 | 253 => 139 | 224 => 140 | 254 => 141 | 255 => 137 | 291 => 185 | n => n, fun | 37 => 22 | 3 => 3 | 4 => 4 | 0 => 0 | 5 => 5 | 46 => 190 | 9 => 9 | 146 => 246 | 51 => 245 | n => n, fun | 1 => 0 | n => n⟩
theorem Tryz.lays185 : Go.Proofs.Lays.n185 Tryz.prog Tryz.lays185_ren:={
  mixed:=by kernel_rfl
  f115:=Tryz.func93.trans (congrArg some (by kernel_rfl))
  f185:=Tryz.func92.trans (congrArg some (by kernel_rfl))
  f187:=Tryz.func88.trans (congrArg some (by kernel_rfl))
  f224:=Tryz.func140.trans (congrArg some (by kernel_rfl))
  f253:=Tryz.func139.trans (congrArg some (by kernel_rfl))
  f254:=Tryz.func141.trans (congrArg some (by kernel_rfl))
  f255:=Tryz.func137.trans (congrArg some (by kernel_rfl))
  f291:=Tryz.func185.trans (congrArg some (by kernel_rfl))
  t0:=Tryz.underlying0
  a0:=Tryz.isAgg0
  z0:=Tryz.sizeOf0
  v0:=Tryz.zeroValue0
  t3:=Tryz.underlying3
  a3:=Tryz.isAgg3
  z3:=Tryz.sizeOf3
  v3:=Tryz.zeroValue3
  t4:=Tryz.underlying4
  a4:=Tryz.isAgg4
  z4:=Tryz.sizeOf4
  v4:=Tryz.zeroValue4
  t5:=Tryz.underlying5
  a5:=Tryz.isAgg5
  z5:=Tryz.sizeOf5
  v5:=Tryz.zeroValue5
  t9:=Tryz.underlying9
  a9:=Tryz.isAgg9
  z9:=Tryz.sizeOf9
  v9:=Tryz.zeroValue9
  t37:=Tryz.underlying22
  a37:=Tryz.isAgg22
  z37:=Tryz.sizeOf22
  v37:=Tryz.zeroValue22
  t46:=Tryz.underlying190
  a46:=Tryz.isAgg190
  z46:=Tryz.sizeOf190
  v46:=Tryz.zeroValue190
  t51:=Tryz.underlying245
  a51:=Tryz.isAgg245
  z51:=Tryz.sizeOf245
  v51:=Tryz.zeroValue245
  t146:=Tryz.underlying246
  a146:=Tryz.isAgg246
  z146:=Tryz.sizeOf246
  v146:=Tryz.zeroValue246
  g1:=by kernel_rfl }
open Go.RowKit Go.Lib in
theorem Tryz.bytes_Index_one (b o n c b2 o2 d : Nat) (xs : List Int) (cv : Int) (w : World) (hx : xs.length = n) (hc : ∀ i, i < n → w.cell? ⟨b, o + i, none⟩ = some (.int .u8 (xs.getD i 0))) (hc2 : w.cell? ⟨b2, o2, none⟩ = some (.int .u8 cv)) :
    Calls Tryz.prog 92 #[.slice (some ⟨b, o, none⟩) n c, .slice (some ⟨b2, o2, none⟩) 1 d] w fun e w' => e = .returned (.int .i64 (Lib.indexByte (Lib.bytesOf xs) cv.toNat.toUInt8)) ∧ w' = w:=Any.bytes_Index_one Tryz.lays185 b o n c b2 o2 d xs cv w hx hc hc2
open Go.RowKit Go.Lib in
theorem Tryz.bytes_Index_none (p q : Option Addr) (n c d : Nat) (w : World) :
    Calls Tryz.prog 92 #[.slice p n c, .slice q 0 d] w fun e w' => e = .returned (.int .i64 0) ∧ w' = w:=Any.bytes_Index_none Tryz.lays185 p q n c d w
open Go.RowKit Go.Lib in
theorem Tryz.bytes_Index_longer (p q : Option Addr) (n c m d : Nat) (w : World) (h2 : 2 ≤ m) (hnm : n < m) (hm : m ≤ 9223372036854775807) :
    Calls Tryz.prog 92 #[.slice p n c, .slice q m d] w fun e w' => e = .returned (.int .i64 (-1)) ∧ w' = w:=Any.bytes_Index_longer Tryz.lays185 p q n c m d w h2 hnm hm
open Go.RowKit Go.Lib in
theorem Tryz.bytes_Index_same (b o c b2 o2 d n : Nat) (xs ys : List Int) (w : World) (h2 : 2 ≤ n) (hm : n ≤ 9223372036854775807) (hx : xs.length = n) (hy : ys.length = n) (hc : ∀ i, i < n → w.cell? ⟨b, o + i, none⟩ = some (.int .u8 (xs.getD i 0))) (hc2 : ∀ i, i < n → w.cell? ⟨b2, o2 + i, none⟩ = some (.int .u8 (ys.getD i 0))) :
    Calls Tryz.prog 92 #[.slice (some ⟨b, o, none⟩) n c, .slice (some ⟨b2, o2, none⟩) n d] w fun e w' => e = .returned (.int .i64 (if Lib.bytesOf ys == Lib.bytesOf xs then 0 else -1)) ∧ w' = w:=Any.bytes_Index_same Tryz.lays185 b o c b2 o2 d n xs ys w h2 hm hx hy hc hc2
def Tryz.lays187_ren : Go.Shelf.Ren:=⟨fun | 187 => 88 | 255 => 137 | n => n, fun | 37 => 22 | 5 => 5 | 3 => 3 | n => n, fun | n => n⟩
theorem Tryz.lays187 : Go.Proofs.Lays.n187 Tryz.prog Tryz.lays187_ren:={
  mixed:=by kernel_rfl
  f187:=Tryz.func88.trans (congrArg some (by kernel_rfl))
  f255:=Tryz.func137.trans (congrArg some (by kernel_rfl))
  t3:=Tryz.underlying3
  a3:=Tryz.isAgg3
  z3:=Tryz.sizeOf3
  v3:=Tryz.zeroValue3
  t5:=Tryz.underlying5
  a5:=Tryz.isAgg5
  z5:=Tryz.sizeOf5
  v5:=Tryz.zeroValue5
  t37:=Tryz.underlying22
  a37:=Tryz.isAgg22
  z37:=Tryz.sizeOf22
  v37:=Tryz.zeroValue22 }
open Go.Proofs Go.RowKit Go.Lib in
theorem Tryz.bytes_Index_at (a1 a2 : Addr) (n c1 k c2 : Nat) (xs ys : List Int) (m : Int) (w : World) (hx : xs.length = n) (hy : ys.length = k) (hr1 : ∀ x ∈ xs, 0 ≤ x ∧ x < 256) (hr2 : ∀ y ∈ ys, 0 ≤ y ∧ y < 256) (hc1 : ∀ i, i < n → w.cell? (a1.add i) = some (.int .u8 (xs.getD i 0))) (hc2 : ∀ i, i < k → w.cell? (a2.add i) = some (.int .u8 (ys.getD i 0))) (hcap : n ≤ c1) (hs : n < 4294967281) (hk : k ≤ 9223372036854775807) (hm : w.cell? ⟨0, 0, none⟩ = some (.int .i64 m)) :
    Calls Tryz.prog 92 #[.slice (some a1) n c1, .slice (some a2) k c2] w fun e w' => e = .returned (.int .i64 (Lib.index (Lib.bytesOf xs) (Lib.bytesOf ys))) ∧ ∃ q, w' = w.drewN q:=Any.bytes_Index_at Tryz.lays185 a1 a2 n c1 k c2 xs ys m w hx hy hr1 hr2 hc1 hc2 hcap hs hk hm
theorem Tryz.bytes_IndexByte (b o n c : Nat) (xs : List Int) (cv : Int) (w : World) (hx : xs.length = n) (hc : ∀ i, i < n → w.cell? ⟨b, o + i, none⟩ = some (.int .u8 (xs.getD i 0))) :
    Calls Tryz.prog 88 #[.slice (some ⟨b, o, none⟩) n c, .int .u8 cv] w fun e w' => e = .returned (.int .i64 (Lib.indexByte (Lib.bytesOf xs) cv.toNat.toUInt8)) ∧ w' = w:=Any.bytes_IndexByte Tryz.lays187 b o n c xs cv w hx hc
end Go.Proofs
