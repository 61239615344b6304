/-
  Contracts of the library functions that the law reaches.
-/
import Derived.Shelf.Strings.Builder1
import Derived.Shelf.Strings.Builder2
import Derived.Shelf.Strings.Trim
import Derived.Shelf.Small.Utf8
import Derived.Shelf.Small.Strs
import Derived.Shelf.Small.Wraps
import Derived.Shelf.Strings.BuilderF
import Derived.Shelf.Strings.BuilderK
import Derived.Shelf.Strings.BuilderRune
import Derived.Shelf.Strings.Builder2Cap
import Derived.Shelf.Strconv.Atoi
import Derived.Shelf.Strconv.Itoa0
import Derived.Shelf.Strconv.Itoa1
import Derived.Shelf.LaysM
import Derived.Shelf.Strconv.Itoa2
import Derived.Shelf.Strconv.Itoa3
import Derived.Shelf.Strconv.Itoa4
import Derived.Shelf.Strconv.ParseIntEmpty
import Derived.Shelf.Strconv.Clone
import Derived.Shelf.Strconv.SyntaxError
import Derived.Shelf.LaysC
import Derived.Shelf.Strconv.ToError
import Derived.Shelf.Strconv.Lower
import Derived.Shelf.Strconv.ParseUint10
import Derived.Shelf.Strconv.ParseUint10Empty
import Derived.Shelf.Strconv.ParseUint10Any
import Derived.Shelf.Strconv.ParseInt10
import Derived.Shelf.Strconv.RangeError
import Derived.Shelf.Strconv.ToErrorRange
import Derived.Shelf.Strconv.ParseUintEmpty
import Derived.Shelf.Strconv.ParseUint10b64
import Derived.Shelf.Strconv.ParseUint10b32
import Derived.Shelf.Strconv.ParseUint10b16
import Derived.Shelf.Strconv.ParseUint10b8
import Derived.Shelf.Strconv.ParseUint10At
import Derived.Shelf.Strconv.ParseInt10At64
import Derived.Shelf.Strconv.ParseInt10At32
import Derived.Shelf.Strconv.ParseInt10At16
import Derived.Shelf.Strconv.ParseInt10At8
import Derived.Shelf.Strconv.ParseInt10All
import Derived.Shelf.Strconv.ParseIntPublic10
import Derived.Shelf.Strings.Search1
import Derived.Shelf.Strings.Search2
import Derived.Shelf.Strings.Search3
import Derived.Shelf.Strings.Cut
import Derived.Shelf.Strings.Count
import Derived.Shelf.Strings.Shaped
import Derived.Shelf.GgClosure.StringsIndexFunc
import Derived.Shelf.Strings.Prefix
import Derived.Shelf.Strings.Split
import Derived.Shelf.Strings.Fields
import Derived.Shelf.Strings.Runes
import Derived.Shelf.Strings.IndexAny
import Derived.Shelf.Strings.AsciiSet
import Derived.Shelf.Strings.IndexAnyAll
import Derived.Shelf.Bits.Mul64
import Derived.Shelf.Strings.Repeat
import Derived.Shelf.Unicode.DecodeSlow
import Derived.Shelf.Unicode.DecodeAny
import Derived.Shelf.Strings.MapAny
import Derived.Shelf.Strings.BuilderCap
import Derived.Shelf.Strings.MapGrows
import Derived.Shelf.Bytes.SlIndexSmall
import Derived.Shelf.Bytes.SlIndexAt
import Derived.Shelf.Bytes.SlSearch0
import Derived.Shelf.Bytes.SlSearch1
import Derived.Shelf.Bytes.SlSearch2
import Derived.Shelf.Bytes.SlIndexWhole
import Derived.Shelf.Bytes.SlSmallAll
import Derived.Shelf.Bytes.SlEqualAll
import Derived.Shelf.Bytes.Small
import Derived.Shelf.Bytes.IndexByte
import Derived.Test.YtannhfbidakffaaGreatDoorProg
namespace Go.Proofs
open Go.Shelf
open Tryz
theorem hT{α:Type}{a:Option α}{b c:α}(h:a=some b)(e:b=c):a=some c:=h.trans (congrArg some e)
def Tryz.lays161_ren : Go.Shelf.Ren:=⟨fun | 161 => 152 | 231 => 170 | 227 => 172 | 233 => 173 | 235 => 175 | 228 => 237 | 197 => 181 | 151 => 238 | 260 => 245 | 152 => 287 | 137 => 180 | 119 => 308 | 224 => 136 | 225 => 309 | 217 => 244 | 266 => 290 | n => n, fun | 9 => 9 | 4 => 4 | 3 => 3 | 5 => 5 | 117 => 270 | 116 => 269 | 0 => 0 | 124 => 273 | 105 => 276 | 21 => 21 | 119 => 340 | 46 => 191 | 139 => 367 | 138 => 366 | n => n, fun | 3 => 7 | 4 => 8 | n => n⟩
theorem Tryz.lays161 : Go.Proofs.Lays.n161 Tryz.prog Tryz.lays161_ren:={
  mixed:=by kernel_rfl
  f119:=hT func308 (by kernel_rfl)
  f137:=hT func180 (by kernel_rfl)
  f151:=hT func238 (by kernel_rfl)
  f152:=hT func287 (by kernel_rfl)
  f161:=hT func152 (by kernel_rfl)
  f197:=hT func181 (by kernel_rfl)
  f217:=hT func244 (by kernel_rfl)
  f224:=hT func136 (by kernel_rfl)
  f225:=hT func309 (by kernel_rfl)
  f227:=hT func172 (by kernel_rfl)
  f228:=hT func237 (by kernel_rfl)
  f231:=hT func170 (by kernel_rfl)
  f233:=hT func173 (by kernel_rfl)
  f235:=hT func175 (by kernel_rfl)
  f260:=hT func245 (by kernel_rfl)
  f266:=hT func290 (by kernel_rfl)
  t0:=underlying0
  a0:=isAgg0
  z0:=sizeOf0
  v0:=zeroValue0
  t3:=underlying3
  a3:=isAgg3
  z3:=sizeOf3
  v3:=zeroValue3
  t4:=underlying4
  a4:=isAgg4
  z4:=sizeOf4
  v4:=zeroValue4
  t5:=underlying5
  a5:=isAgg5
  z5:=sizeOf5
  v5:=zeroValue5
  t9:=underlying9
  a9:=isAgg9
  z9:=sizeOf9
  v9:=zeroValue9
  t21:=underlying21
  a21:=isAgg21
  z21:=sizeOf21
  v21:=zeroValue21
  t46:=underlying191
  a46:=isAgg191
  z46:=sizeOf191
  v46:=zeroValue191
  t105:=underlying276
  a105:=isAgg276
  z105:=sizeOf276
  v105:=zeroValue276
  t116:=underlying269
  a116:=isAgg269
  z116:=sizeOf269
  t117:=underlying270
  a117:=isAgg270
  z117:=sizeOf270
  v117:=zeroValue270
  t119:=underlying340
  a119:=isAgg340
  z119:=sizeOf340
  t124:=underlying273
  a124:=isAgg273
  z124:=sizeOf273
  v124:=zeroValue273
  t138:=underlying366
  a138:=isAgg366
  z138:=sizeOf366
  v138:=zeroValue366
  t139:=underlying367
  a139:=isAgg367
  z139:=sizeOf367
  v139:=zeroValue367
  g3:=by kernel_rfl
  g4:=by kernel_rfl }
def Tryz.lays162_ren : Go.Shelf.Ren:=⟨fun | 162 => 253 | 232 => 171 | 227 => 172 | 234 => 174 | 236 => 176 | 228 => 237 | 271 => 239 | 151 => 238 | 120 => 288 | 197 => 181 | 152 => 287 | 260 => 245 | 137 => 180 | 119 => 308 | 224 => 136 | 225 => 309 | 217 => 244 | 266 => 290 | n => n, fun | 9 => 9 | 4 => 4 | 3 => 3 | 5 => 5 | 117 => 270 | 116 => 269 | 0 => 0 | 124 => 273 | 21 => 21 | 105 => 276 | 46 => 191 | 119 => 340 | 139 => 367 | 138 => 366 | n => n, fun | 3 => 7 | 4 => 8 | n => n⟩
theorem Tryz.lays162 : Go.Proofs.Lays.n162 Tryz.prog Tryz.lays162_ren:={
  mixed:=by kernel_rfl
  f119:=hT func308 (by kernel_rfl)
  f120:=hT func288 (by kernel_rfl)
  f137:=hT func180 (by kernel_rfl)
  f151:=hT func238 (by kernel_rfl)
  f152:=hT func287 (by kernel_rfl)
  f162:=hT func253 (by kernel_rfl)
  f197:=hT func181 (by kernel_rfl)
  f217:=hT func244 (by kernel_rfl)
  f224:=hT func136 (by kernel_rfl)
  f225:=hT func309 (by kernel_rfl)
  f227:=hT func172 (by kernel_rfl)
  f228:=hT func237 (by kernel_rfl)
  f232:=hT func171 (by kernel_rfl)
  f234:=hT func174 (by kernel_rfl)
  f236:=hT func176 (by kernel_rfl)
  f260:=hT func245 (by kernel_rfl)
  f266:=hT func290 (by kernel_rfl)
  f271:=hT func239 (by kernel_rfl)
  t0:=underlying0
  a0:=isAgg0
  z0:=sizeOf0
  v0:=zeroValue0
  t3:=underlying3
  a3:=isAgg3
  z3:=sizeOf3
  v3:=zeroValue3
  t4:=underlying4
  a4:=isAgg4
  z4:=sizeOf4
  v4:=zeroValue4
  t5:=underlying5
  a5:=isAgg5
  z5:=sizeOf5
  v5:=zeroValue5
  t9:=underlying9
  a9:=isAgg9
  z9:=sizeOf9
  v9:=zeroValue9
  t21:=underlying21
  a21:=isAgg21
  z21:=sizeOf21
  v21:=zeroValue21
  t46:=underlying191
  a46:=isAgg191
  z46:=sizeOf191
  v46:=zeroValue191
  t105:=underlying276
  a105:=isAgg276
  z105:=sizeOf276
  v105:=zeroValue276
  t116:=underlying269
  a116:=isAgg269
  z116:=sizeOf269
  t117:=underlying270
  a117:=isAgg270
  z117:=sizeOf270
  v117:=zeroValue270
  t119:=underlying340
  a119:=isAgg340
  z119:=sizeOf340
  t124:=underlying273
  a124:=isAgg273
  z124:=sizeOf273
  v124:=zeroValue273
  t138:=underlying366
  a138:=isAgg366
  z138:=sizeOf366
  v138:=zeroValue366
  t139:=underlying367
  a139:=isAgg367
  z139:=sizeOf367
  v139:=zeroValue367
  g3:=by kernel_rfl
  g4:=by kernel_rfl }
def Tryz.lays160_ren : Go.Shelf.Ren:=⟨fun | 160 => 107 | 232 => 171 | 231 => 170 | 227 => 172 | 234 => 174 | 233 => 173 | 236 => 176 | 235 => 175 | 228 => 237 | 271 => 239 | 151 => 238 | 197 => 181 | 120 => 288 | 152 => 287 | 260 => 245 | 137 => 180 | 119 => 308 | 224 => 136 | 225 => 309 | 217 => 244 | 266 => 290 | n => n, fun | 9 => 9 | 4 => 4 | 3 => 3 | 5 => 5 | 117 => 270 | 116 => 269 | 0 => 0 | 124 => 273 | 21 => 21 | 105 => 276 | 46 => 191 | 119 => 340 | 139 => 367 | 138 => 366 | n => n, fun | 3 => 7 | 4 => 8 | n => n⟩
theorem Tryz.lays160 : Go.Proofs.Lays.n160 Tryz.prog Tryz.lays160_ren:={
  mixed:=by kernel_rfl
  f119:=hT func308 (by kernel_rfl)
  f120:=hT func288 (by kernel_rfl)
  f137:=hT func180 (by kernel_rfl)
  f151:=hT func238 (by kernel_rfl)
  f152:=hT func287 (by kernel_rfl)
  f160:=hT func107 (by kernel_rfl)
  f197:=hT func181 (by kernel_rfl)
  f217:=hT func244 (by kernel_rfl)
  f224:=hT func136 (by kernel_rfl)
  f225:=hT func309 (by kernel_rfl)
  f227:=hT func172 (by kernel_rfl)
  f228:=hT func237 (by kernel_rfl)
  f231:=hT func170 (by kernel_rfl)
  f232:=hT func171 (by kernel_rfl)
  f233:=hT func173 (by kernel_rfl)
  f234:=hT func174 (by kernel_rfl)
  f235:=hT func175 (by kernel_rfl)
  f236:=hT func176 (by kernel_rfl)
  f260:=hT func245 (by kernel_rfl)
  f266:=hT func290 (by kernel_rfl)
  f271:=hT func239 (by kernel_rfl)
  t0:=underlying0
  a0:=isAgg0
  z0:=sizeOf0
  v0:=zeroValue0
  t3:=underlying3
  a3:=isAgg3
  z3:=sizeOf3
  v3:=zeroValue3
  t4:=underlying4
  a4:=isAgg4
  z4:=sizeOf4
  v4:=zeroValue4
  t5:=underlying5
  a5:=isAgg5
  z5:=sizeOf5
  v5:=zeroValue5
  t9:=underlying9
  a9:=isAgg9
  z9:=sizeOf9
  v9:=zeroValue9
  t21:=underlying21
  a21:=isAgg21
  z21:=sizeOf21
  v21:=zeroValue21
  t46:=underlying191
  a46:=isAgg191
  z46:=sizeOf191
  v46:=zeroValue191
  t105:=underlying276
  a105:=isAgg276
  z105:=sizeOf276
  v105:=zeroValue276
  t116:=underlying269
  a116:=isAgg269
  z116:=sizeOf269
  t117:=underlying270
  a117:=isAgg270
  z117:=sizeOf270
  v117:=zeroValue270
  t119:=underlying340
  a119:=isAgg340
  z119:=sizeOf340
  t124:=underlying273
  a124:=isAgg273
  z124:=sizeOf273
  v124:=zeroValue273
  t138:=underlying366
  a138:=isAgg366
  z138:=sizeOf366
  v138:=zeroValue366
  t139:=underlying367
  a139:=isAgg367
  z139:=sizeOf367
  v139:=zeroValue367
  g3:=by kernel_rfl
  g4:=by kernel_rfl }
def Tryz.lays118_ren : Go.Shelf.Ren:=⟨fun | 118 => 182 | n => n, fun | 21 => 21 | 3 => 3 | 4 => 4 | n => n, fun | n => n⟩
theorem Tryz.lays118 : Go.Proofs.Lays.n118 Tryz.prog Tryz.lays118_ren:={
  mixed:=by kernel_rfl
  f118:=hT func182 (by kernel_rfl)
  t3:=underlying3
  a3:=isAgg3
  z3:=sizeOf3
  v3:=zeroValue3
  t4:=underlying4
  a4:=isAgg4
  z4:=sizeOf4
  v4:=zeroValue4
  t21:=underlying21
  a21:=isAgg21
  z21:=sizeOf21
  v21:=zeroValue21 }
theorem Tryz.utf8_RuneLen (r : Int) (w : World) :
    Calls Tryz.prog 182 #[.int .i32 r] w fun e w' => e = .returned (.int .i64 (Lib.runeLen r)) ∧ w' = w:=Any.utf8_RuneLen Tryz.lays118 r w
def Tryz.lays137_ren : Go.Shelf.Ren:=⟨fun | 137 => 180 | 217 => 244 | 266 => 290 | n => n, fun | 9 => 9 | 5 => 5 | 3 => 3 | n => n, fun | n => n⟩
theorem Tryz.lays137 : Go.Proofs.Lays.n137 Tryz.prog Tryz.lays137_ren:={
  mixed:=by kernel_rfl
  f137:=hT func180 (by kernel_rfl)
  f217:=hT func244 (by kernel_rfl)
  f266:=hT func290 (by kernel_rfl)
  t3:=underlying3
  a3:=isAgg3
  z3:=sizeOf3
  v3:=zeroValue3
  t5:=underlying5
  a5:=isAgg5
  z5:=sizeOf5
  v5:=zeroValue5
  t9:=underlying9
  a9:=isAgg9
  z9:=sizeOf9
  v9:=zeroValue9 }
open Go.RowKit in
theorem Tryz.strings_IndexByte (s : ByteArray) (c : Int) (w : World) :
    Calls Tryz.prog 180 #[.string s, .int .u8 c] w fun e w' => e = .returned (.int .i64 (Lib.indexByte s.data.toList c.toNat.toUInt8)) ∧ w' = w:=Any.strings_IndexByte Tryz.lays137 s c w
def Tryz.lays103_ren : Go.Shelf.Ren:=⟨fun | 103 => 83 | 210 => 140 | 206 => 208 | n => n, fun | 9 => 9 | 4 => 4 | 24 => 165 | 3 => 3 | n => n, fun | n => n⟩
theorem Tryz.lays103 : Go.Proofs.Lays.n103 Tryz.prog Tryz.lays103_ren:={
  mixed:=by kernel_rfl
  f103:=hT func83 (by kernel_rfl)
  f206:=hT func208 (by kernel_rfl)
  f210:=hT func140 (by kernel_rfl)
  t3:=underlying3
  a3:=isAgg3
  z3:=sizeOf3
  v3:=zeroValue3
  t4:=underlying4
  a4:=isAgg4
  z4:=sizeOf4
  v4:=zeroValue4
  t9:=underlying9
  a9:=isAgg9
  z9:=sizeOf9
  v9:=zeroValue9
  t24:=underlying165
  a24:=isAgg165
  z24:=sizeOf165
  v24:=zeroValue165 }
open Go.RowKit in
theorem Tryz.strings_CutPrefix (s p : ByteArray) (w : World) :
    Calls Tryz.prog 83 #[.string s, .string p] w fun e w' => e = .returned (.tuple #[.string ⟨(Lib.trimPrefix s.data.toList p.data.toList).toArray⟩, .bool (Lib.hasPrefix s.data.toList p.data.toList)]) ∧ w' = w:=Any.strings_CutPrefix Tryz.lays103 s p w
def Tryz.lays104_ren : Go.Shelf.Ren:=⟨fun | 104 => 177 | 211 => 240 | 207 => 219 | n => n, fun | 9 => 9 | 4 => 4 | 24 => 165 | 3 => 3 | n => n, fun | n => n⟩
theorem Tryz.lays104 : Go.Proofs.Lays.n104 Tryz.prog Tryz.lays104_ren:={
  mixed:=by kernel_rfl
  f104:=hT func177 (by kernel_rfl)
  f207:=hT func219 (by kernel_rfl)
  f211:=hT func240 (by kernel_rfl)
  t3:=underlying3
  a3:=isAgg3
  z3:=sizeOf3
  v3:=zeroValue3
  t4:=underlying4
  a4:=isAgg4
  z4:=sizeOf4
  v4:=zeroValue4
  t9:=underlying9
  a9:=isAgg9
  z9:=sizeOf9
  v9:=zeroValue9
  t24:=underlying165
  a24:=isAgg165
  z24:=sizeOf165
  v24:=zeroValue165 }
open Go.RowKit in
theorem Tryz.strings_CutSuffix (s p : ByteArray) (w : World) (hs : s.size ≤ 9223372036854775807) :
    Calls Tryz.prog 177 #[.string s, .string p] w fun e w' => e = .returned (.tuple #[.string ⟨(Lib.trimSuffix s.data.toList p.data.toList).toArray⟩, .bool (Lib.hasSuffix s.data.toList p.data.toList)]) ∧ w' = w:=Any.strings_CutSuffix Tryz.lays104 s p w hs
def Tryz.lays172_ren : Go.Shelf.Ren:=⟨fun | 172 => 300 | 244 => 313 | 245 => 103 | 247 => 102 | 279 => 161 | 280 => 162 | 281 => 163 | 282 => 164 | 287 => 160 | 316 => 233 | 171 => 156 | 205 => 234 | 321 => 231 | 322 => 232 | 243 => 220 | 246 => 141 | 283 => 209 | 284 => 210 | 285 => 211 | 286 => 212 | 129 => 278 | 317 => 277 | 318 => 279 | 319 => 280 | 320 => 281 | 337 => 306 | 338 => 307 | n => n, fun | 9 => 9 | 3 => 3 | 75 => 134 | 76 => 265 | 4 => 4 | 5 => 5 | 167 => 254 | 37 => 22 | 0 => 0 | 85 => 135 | 2 => 2 | 168 => 258 | 53 => 255 | 175 => 256 | 46 => 191 | 210 => 323 | 127 => 325 | 145 => 361 | 143 => 359 | 21 => 21 | 171 => 305 | 173 => 308 | 212 => 354 | 51 => 302 | 20 => 20 | 213 => 355 | 232 => 387 | 233 => 388 | 80 => 67 | n => n, fun | 15 => 2 | 16 => 3 | 17 => 6 | 18 => 11 | 19 => 12 | n => n⟩
theorem Tryz.lays172 : Go.Proofs.Lays.n172 Tryz.prog Tryz.lays172_ren:={
  mixed:=by kernel_rfl
  f129:=hT func278 (by kernel_rfl)
  f171:=hT func156 (by kernel_rfl)
  f172:=hT func300 (by kernel_rfl)
  f205:=hT func234 (by kernel_rfl)
  f243:=hT func220 (by kernel_rfl)
  f244:=hT func313 (by kernel_rfl)
  f245:=hT func103 (by kernel_rfl)
  f246:=hT func141 (by kernel_rfl)
  f247:=hT func102 (by kernel_rfl)
  f279:=hT func161 (by kernel_rfl)
  f280:=hT func162 (by kernel_rfl)
  f281:=hT func163 (by kernel_rfl)
  f282:=hT func164 (by kernel_rfl)
  f283:=hT func209 (by kernel_rfl)
  f284:=hT func210 (by kernel_rfl)
  f285:=hT func211 (by kernel_rfl)
  f286:=hT func212 (by kernel_rfl)
  f287:=hT func160 (by kernel_rfl)
  f316:=hT func233 (by kernel_rfl)
  f317:=hT func277 (by kernel_rfl)
  f318:=hT func279 (by kernel_rfl)
  f319:=hT func280 (by kernel_rfl)
  f320:=hT func281 (by kernel_rfl)
  f321:=hT func231 (by kernel_rfl)
  f322:=hT func232 (by kernel_rfl)
  f337:=hT func306 (by kernel_rfl)
  f338:=hT func307 (by kernel_rfl)
  t0:=underlying0
  a0:=isAgg0
  z0:=sizeOf0
  v0:=zeroValue0
  t2:=underlying2
  a2:=isAgg2
  z2:=sizeOf2
  v2:=zeroValue2
  t3:=underlying3
  a3:=isAgg3
  z3:=sizeOf3
  v3:=zeroValue3
  t4:=underlying4
  a4:=isAgg4
  z4:=sizeOf4
  v4:=zeroValue4
  t5:=underlying5
  a5:=isAgg5
  z5:=sizeOf5
  v5:=zeroValue5
  t9:=underlying9
  a9:=isAgg9
  z9:=sizeOf9
  v9:=zeroValue9
  t20:=underlying20
  a20:=isAgg20
  z20:=sizeOf20
  v20:=zeroValue20
  t21:=underlying21
  a21:=isAgg21
  z21:=sizeOf21
  v21:=zeroValue21
  t37:=underlying22
  a37:=isAgg22
  z37:=sizeOf22
  v37:=zeroValue22
  t46:=underlying191
  a46:=isAgg191
  z46:=sizeOf191
  v46:=zeroValue191
  t51:=underlying302
  a51:=isAgg302
  z51:=sizeOf302
  v51:=zeroValue302
  t53:=underlying255
  a53:=isAgg255
  z53:=sizeOf255
  v53:=zeroValue255
  t75:=underlying134
  a75:=isAgg134
  z75:=sizeOf134
  v75:=zeroValue134
  t76:=underlying265
  a76:=isAgg265
  z76:=sizeOf265
  v76:=zeroValue265
  t85:=underlying135
  a85:=isAgg135
  z85:=sizeOf135
  v85:=zeroValue135
  t127:=underlying325
  a127:=isAgg325
  z127:=sizeOf325
  v127:=zeroValue325
  t143:=underlying359
  a143:=isAgg359
  z143:=sizeOf359
  v143:=zeroValue359
  t145:=underlying361
  a145:=isAgg361
  z145:=sizeOf361
  v145:=zeroValue361
  t167:=underlying254
  a167:=isAgg254
  z167:=sizeOf254
  v167:=zeroValue254
  t168:=underlying258
  a168:=isAgg258
  z168:=sizeOf258
  v168:=zeroValue258
  t171:=underlying305
  a171:=isAgg305
  z171:=sizeOf305
  v171:=zeroValue305
  t173:=underlying308
  a173:=isAgg308
  z173:=sizeOf308
  v173:=zeroValue308
  t175:=underlying256
  a175:=isAgg256
  z175:=sizeOf256
  v175:=zeroValue256
  t210:=underlying323
  a210:=isAgg323
  z210:=sizeOf323
  v210:=zeroValue323
  t212:=underlying354
  a212:=isAgg354
  z212:=sizeOf354
  v212:=zeroValue354
  t213:=underlying355
  a213:=isAgg355
  z213:=sizeOf355
  t232:=underlying387
  a232:=isAgg387
  z232:=sizeOf387
  v232:=zeroValue387
  t233:=underlying388
  a233:=isAgg388
  z233:=sizeOf388
  v233:=zeroValue388
  g15:=by kernel_rfl
  g16:=by kernel_rfl
  g17:=by kernel_rfl
  g18:=by kernel_rfl
  g19:=by kernel_rfl }
open Go.RowKit in
theorem Tryz.strconv_Atoi (s : ByteArray) (n : Int) (hl : s.size ≤ 18) (h : Lib.atoi s.data.toList = some n) (w : World) :
    Calls Tryz.prog 300 #[.string s] w fun e w' => e = .returned (.tuple #[.int .i64 n, .nilIface]) ∧ ∃ t, w' = Lib.bytesWorld w 5 t:=Any.strconv_Atoi Tryz.lays172 s n hl h w
def Tryz.laysM171_ren : Go.Shelf.Ren:=⟨fun | 171 => 156 | 243 => 220 | 246 => 141 | 283 => 209 | 284 => 210 | 285 => 211 | 286 => 212 | 129 => 278 | 317 => 277 | 318 => 279 | 319 => 280 | 320 => 281 | 337 => 306 | 338 => 307 | n => n, fun | 3 => 3 | 9 => 9 | 2 => 2 | 4 => 4 | 171 => 305 | 0 => 0 | 53 => 255 | 37 => 22 | 5 => 5 | 173 => 308 | 212 => 354 | 51 => 302 | 20 => 20 | 213 => 355 | 46 => 191 | 232 => 387 | 233 => 388 | n => n, fun | 17 => 6 | 18 => 11 | 19 => 12 | n => n⟩
theorem Tryz.laysM171 : Go.Proofs.LaysM.n171 Tryz.prog Tryz.laysM171_ren:={
  mixed:=by kernel_rfl
  f129:=hT func278 (by kernel_rfl)
  f171:=hT func156 (by kernel_rfl)
  f243:=hT func220 (by kernel_rfl)
  f246:=hT func141 (by kernel_rfl)
  f283:=hT func209 (by kernel_rfl)
  f284:=hT func210 (by kernel_rfl)
  f285:=hT func211 (by kernel_rfl)
  f286:=hT func212 (by kernel_rfl)
  f317:=hT func277 (by kernel_rfl)
  f318:=hT func279 (by kernel_rfl)
  f319:=hT func280 (by kernel_rfl)
  f320:=hT func281 (by kernel_rfl)
  f337:=hT func306 (by kernel_rfl)
  f338:=hT func307 (by kernel_rfl)
  t0:=underlying0
  a0:=isAgg0
  z0:=sizeOf0
  v0:=zeroValue0
  t2:=underlying2
  a2:=isAgg2
  z2:=sizeOf2
  v2:=zeroValue2
  t3:=underlying3
  a3:=isAgg3
  z3:=sizeOf3
  v3:=zeroValue3
  t4:=underlying4
  a4:=isAgg4
  z4:=sizeOf4
  v4:=zeroValue4
  t5:=underlying5
  a5:=isAgg5
  z5:=sizeOf5
  v5:=zeroValue5
  t9:=underlying9
  a9:=isAgg9
  z9:=sizeOf9
  v9:=zeroValue9
  t20:=underlying20
  a20:=isAgg20
  z20:=sizeOf20
  v20:=zeroValue20
  t37:=underlying22
  a37:=isAgg22
  z37:=sizeOf22
  v37:=zeroValue22
  t46:=underlying191
  a46:=isAgg191
  z46:=sizeOf191
  v46:=zeroValue191
  t51:=underlying302
  a51:=isAgg302
  z51:=sizeOf302
  v51:=zeroValue302
  t53:=underlying255
  a53:=isAgg255
  z53:=sizeOf255
  v53:=zeroValue255
  t171:=underlying305
  a171:=isAgg305
  z171:=sizeOf305
  v171:=zeroValue305
  t173:=underlying308
  a173:=isAgg308
  z173:=sizeOf308
  v173:=zeroValue308
  t212:=underlying354
  a212:=isAgg354
  z212:=sizeOf354
  v212:=zeroValue354
  t213:=underlying355
  a213:=isAgg355
  z213:=sizeOf355
  t232:=underlying387
  a232:=isAgg387
  z232:=sizeOf387
  v232:=zeroValue387
  t233:=underlying388
  a233:=isAgg388
  z233:=sizeOf388
  v233:=zeroValue388
  g17:=by kernel_rfl
  g18:=by kernel_rfl
  g19:=by kernel_rfl
  i0:=by kernel_rfl
  i2:=by kernel_rfl
  i3:=by kernel_rfl
  i4:=by kernel_rfl
  i5:=by kernel_rfl
  i9:=by kernel_rfl
  i20:=by kernel_rfl
  i37:=by kernel_rfl
  i46:=by kernel_rfl
  i51:=by kernel_rfl
  i53:=by kernel_rfl
  i171:=by kernel_rfl
  i173:=by kernel_rfl
  i212:=by kernel_rfl
  i232:=by kernel_rfl
  i233:=by kernel_rfl
  m17:=by kernel_rfl
  m18:=by kernel_rfl
  m19:=by kernel_rfl }
open Go.RowKit Go.Sort Go.Lib in
theorem Tryz.strconv_Itoa (n : Int) (h0 : -9223372036854775808 ≤ n) (h1 : n ≤ 9223372036854775807) (w : World) (htab : Lib.TabIs Tryz.prog w "internal/strconv.uint64pow10" .u64 Lib.pow10Tab) :
    Calls Tryz.prog 156 #[.int .i64 n] w fun e w' => e = .returned (.string ⟨(Lib.itoa n).toArray⟩) ∧ ∃ k os, w' = grow (w.drewN k) os:=Any.strconv_Itoa Tryz.laysM171 n h0 h1 w htab
def Tryz.laysM173_ren : Go.Shelf.Ren:=⟨fun | 173 => 84 | 246 => 141 | 283 => 209 | 284 => 210 | 285 => 211 | 286 => 212 | 129 => 278 | 317 => 277 | 318 => 279 | 319 => 280 | 320 => 281 | 337 => 306 | 338 => 307 | n => n, fun | 2 => 2 | 3 => 3 | 9 => 9 | 4 => 4 | 171 => 305 | 0 => 0 | 53 => 255 | 37 => 22 | 5 => 5 | 173 => 308 | 212 => 354 | 51 => 302 | 20 => 20 | 213 => 355 | 46 => 191 | 232 => 387 | 233 => 388 | n => n, fun | 17 => 6 | 18 => 11 | 19 => 12 | n => n⟩
theorem Tryz.laysM173 : Go.Proofs.LaysM.n173 Tryz.prog Tryz.laysM173_ren:={
  mixed:=by kernel_rfl
  f129:=hT func278 (by kernel_rfl)
  f173:=hT func84 (by kernel_rfl)
  f246:=hT func141 (by kernel_rfl)
  f283:=hT func209 (by kernel_rfl)
  f284:=hT func210 (by kernel_rfl)
  f285:=hT func211 (by kernel_rfl)
  f286:=hT func212 (by kernel_rfl)
  f317:=hT func277 (by kernel_rfl)
  f318:=hT func279 (by kernel_rfl)
  f319:=hT func280 (by kernel_rfl)
  f320:=hT func281 (by kernel_rfl)
  f337:=hT func306 (by kernel_rfl)
  f338:=hT func307 (by kernel_rfl)
  t0:=underlying0
  a0:=isAgg0
  z0:=sizeOf0
  v0:=zeroValue0
  t2:=underlying2
  a2:=isAgg2
  z2:=sizeOf2
  v2:=zeroValue2
  t3:=underlying3
  a3:=isAgg3
  z3:=sizeOf3
  v3:=zeroValue3
  t4:=underlying4
  a4:=isAgg4
  z4:=sizeOf4
  v4:=zeroValue4
  t5:=underlying5
  a5:=isAgg5
  z5:=sizeOf5
  v5:=zeroValue5
  t9:=underlying9
  a9:=isAgg9
  z9:=sizeOf9
  v9:=zeroValue9
  t20:=underlying20
  a20:=isAgg20
  z20:=sizeOf20
  v20:=zeroValue20
  t37:=underlying22
  a37:=isAgg22
  z37:=sizeOf22
  v37:=zeroValue22
  t46:=underlying191
  a46:=isAgg191
  z46:=sizeOf191
  v46:=zeroValue191
  t51:=underlying302
  a51:=isAgg302
  z51:=sizeOf302
  v51:=zeroValue302
  t53:=underlying255
  a53:=isAgg255
  z53:=sizeOf255
  v53:=zeroValue255
  t171:=underlying305
  a171:=isAgg305
  z171:=sizeOf305
  v171:=zeroValue305
  t173:=underlying308
  a173:=isAgg308
  z173:=sizeOf308
  v173:=zeroValue308
  t212:=underlying354
  a212:=isAgg354
  z212:=sizeOf354
  v212:=zeroValue354
  t213:=underlying355
  a213:=isAgg355
  z213:=sizeOf355
  t232:=underlying387
  a232:=isAgg387
  z232:=sizeOf387
  v232:=zeroValue387
  t233:=underlying388
  a233:=isAgg388
  z233:=sizeOf388
  v233:=zeroValue388
  g17:=by kernel_rfl
  g18:=by kernel_rfl
  g19:=by kernel_rfl
  i0:=by kernel_rfl
  i2:=by kernel_rfl
  i3:=by kernel_rfl
  i4:=by kernel_rfl
  i5:=by kernel_rfl
  i9:=by kernel_rfl
  i20:=by kernel_rfl
  i37:=by kernel_rfl
  i46:=by kernel_rfl
  i51:=by kernel_rfl
  i53:=by kernel_rfl
  i171:=by kernel_rfl
  i173:=by kernel_rfl
  i212:=by kernel_rfl
  i232:=by kernel_rfl
  i233:=by kernel_rfl
  m17:=by kernel_rfl
  m18:=by kernel_rfl
  m19:=by kernel_rfl }
open Go.RowKit Go.Sort Go.Lib in
theorem Tryz.strconv_FormatInt_10 (n : Int) (h0 : -9223372036854775808 ≤ n) (h1 : n ≤ 9223372036854775807) (w : World) (htab : Lib.TabIs Tryz.prog w "internal/strconv.uint64pow10" .u64 Lib.pow10Tab) :
    Calls Tryz.prog 84 #[.int .i64 n, .int .i64 10] w fun e w' => e = .returned (.string ⟨(Lib.itoa n).toArray⟩) ∧ ∃ k os, w' = grow (w.drewN k) os:=Any.strconv_FormatInt_10 Tryz.laysM173 n h0 h1 w htab
def Tryz.laysC174_ren : Go.Shelf.Ren:=⟨fun | 174 => 56 | 247 => 102 | 245 => 103 | 287 => 160 | 279 => 161 | 280 => 162 | 281 => 163 | 282 => 164 | 321 => 231 | 322 => 232 | 316 => 233 | 171 => 156 | 205 => 234 | 243 => 220 | 246 => 141 | 283 => 209 | 284 => 210 | 285 => 211 | 286 => 212 | 129 => 278 | 317 => 277 | 318 => 279 | 319 => 280 | 320 => 281 | 337 => 306 | 338 => 307 | n => n, fun | 9 => 9 | 3 => 3 | 2 => 2 | 75 => 134 | 85 => 135 | 4 => 4 | 167 => 254 | 5 => 5 | 53 => 255 | 175 => 256 | 46 => 191 | 168 => 258 | 37 => 22 | 0 => 0 | 210 => 323 | 21 => 21 | 127 => 325 | 145 => 361 | 143 => 359 | 171 => 305 | 173 => 308 | 212 => 354 | 51 => 302 | 20 => 20 | 213 => 355 | 232 => 387 | 233 => 388 | 80 => 67 | n => n, fun | 15 => 2 | 16 => 3 | 17 => 6 | 18 => 11 | 19 => 12 | n => n⟩
theorem Tryz.laysC174 : Go.Proofs.LaysC.n174 Tryz.prog Tryz.laysC174_ren:={
  mixed:=by kernel_rfl
  f129:=hT func278 (by kernel_rfl)
  f171:=hT func156 (by kernel_rfl)
  f174:=hT func56 (by kernel_rfl)
  f205:=hT func234 (by kernel_rfl)
  f243:=hT func220 (by kernel_rfl)
  f245:=hT func103 (by kernel_rfl)
  f246:=hT func141 (by kernel_rfl)
  f247:=hT func102 (by kernel_rfl)
  f279:=hT func161 (by kernel_rfl)
  f280:=hT func162 (by kernel_rfl)
  f281:=hT func163 (by kernel_rfl)
  f282:=hT func164 (by kernel_rfl)
  f283:=hT func209 (by kernel_rfl)
  f284:=hT func210 (by kernel_rfl)
  f285:=hT func211 (by kernel_rfl)
  f286:=hT func212 (by kernel_rfl)
  f287:=hT func160 (by kernel_rfl)
  f316:=hT func233 (by kernel_rfl)
  f317:=hT func277 (by kernel_rfl)
  f318:=hT func279 (by kernel_rfl)
  f319:=hT func280 (by kernel_rfl)
  f320:=hT func281 (by kernel_rfl)
  f321:=hT func231 (by kernel_rfl)
  f322:=hT func232 (by kernel_rfl)
  f337:=hT func306 (by kernel_rfl)
  f338:=hT func307 (by kernel_rfl)
  t0:=underlying0
  a0:=isAgg0
  z0:=sizeOf0
  v0:=zeroValue0
  t2:=underlying2
  a2:=isAgg2
  z2:=sizeOf2
  v2:=zeroValue2
  t3:=underlying3
  a3:=isAgg3
  z3:=sizeOf3
  v3:=zeroValue3
  t4:=underlying4
  a4:=isAgg4
  z4:=sizeOf4
  v4:=zeroValue4
  t5:=underlying5
  a5:=isAgg5
  z5:=sizeOf5
  v5:=zeroValue5
  t9:=underlying9
  a9:=isAgg9
  z9:=sizeOf9
  v9:=zeroValue9
  t20:=underlying20
  a20:=isAgg20
  z20:=sizeOf20
  v20:=zeroValue20
  t21:=underlying21
  a21:=isAgg21
  z21:=sizeOf21
  v21:=zeroValue21
  t37:=underlying22
  a37:=isAgg22
  z37:=sizeOf22
  v37:=zeroValue22
  t46:=underlying191
  a46:=isAgg191
  z46:=sizeOf191
  v46:=zeroValue191
  t51:=underlying302
  a51:=isAgg302
  z51:=sizeOf302
  v51:=zeroValue302
  t53:=underlying255
  a53:=isAgg255
  z53:=sizeOf255
  v53:=zeroValue255
  t75:=underlying134
  a75:=isAgg134
  z75:=sizeOf134
  v75:=zeroValue134
  t85:=underlying135
  a85:=isAgg135
  z85:=sizeOf135
  v85:=zeroValue135
  t127:=underlying325
  a127:=isAgg325
  z127:=sizeOf325
  v127:=zeroValue325
  t143:=underlying359
  a143:=isAgg359
  z143:=sizeOf359
  v143:=zeroValue359
  t145:=underlying361
  a145:=isAgg361
  z145:=sizeOf361
  v145:=zeroValue361
  t167:=underlying254
  a167:=isAgg254
  z167:=sizeOf254
  v167:=zeroValue254
  t168:=underlying258
  a168:=isAgg258
  z168:=sizeOf258
  v168:=zeroValue258
  t171:=underlying305
  a171:=isAgg305
  z171:=sizeOf305
  v171:=zeroValue305
  t173:=underlying308
  a173:=isAgg308
  z173:=sizeOf308
  v173:=zeroValue308
  t175:=underlying256
  a175:=isAgg256
  z175:=sizeOf256
  v175:=zeroValue256
  t210:=underlying323
  a210:=isAgg323
  z210:=sizeOf323
  v210:=zeroValue323
  t212:=underlying354
  a212:=isAgg354
  z212:=sizeOf354
  v212:=zeroValue354
  t213:=underlying355
  a213:=isAgg355
  z213:=sizeOf355
  t232:=underlying387
  a232:=isAgg387
  z232:=sizeOf387
  v232:=zeroValue387
  t233:=underlying388
  a233:=isAgg388
  z233:=sizeOf388
  v233:=zeroValue388
  g15:=by kernel_rfl
  g16:=by kernel_rfl
  g17:=by kernel_rfl
  g18:=by kernel_rfl
  g19:=by kernel_rfl
  t80:=underlying67
  a80:=isAgg67
  z80:=sizeOf67
  v80:=zeroValue67
  i0:=by kernel_rfl
  i2:=by kernel_rfl
  i3:=by kernel_rfl
  i4:=by kernel_rfl
  i5:=by kernel_rfl
  i9:=by kernel_rfl
  i20:=by kernel_rfl
  i21:=by kernel_rfl
  i37:=by kernel_rfl
  i46:=by kernel_rfl
  i51:=by kernel_rfl
  i53:=by kernel_rfl
  i75:=by kernel_rfl
  i80:=by kernel_rfl
  i85:=by kernel_rfl
  i127:=by kernel_rfl
  i143:=by kernel_rfl
  i145:=by kernel_rfl
  i167:=by kernel_rfl
  i168:=by kernel_rfl
  i171:=by kernel_rfl
  i173:=by kernel_rfl
  i175:=by kernel_rfl
  i210:=by kernel_rfl
  i212:=by kernel_rfl
  i232:=by kernel_rfl
  i233:=by kernel_rfl
  m15:=by kernel_rfl
  m16:=by kernel_rfl
  m17:=by kernel_rfl
  m18:=by kernel_rfl
  m19:=by kernel_rfl
  c0:=by kernel_rfl
  c2:=by kernel_rfl
  c3:=by kernel_rfl
  c4:=by kernel_rfl
  c5:=by kernel_rfl
  c9:=by kernel_rfl
  c20:=by kernel_rfl
  c21:=by kernel_rfl
  c37:=by kernel_rfl
  c46:=by kernel_rfl
  c51:=by kernel_rfl
  c53:=by kernel_rfl
  c75:=by kernel_rfl
  c80:=by kernel_rfl
  c85:=by kernel_rfl
  c127:=by kernel_rfl
  c143:=by kernel_rfl
  c145:=by kernel_rfl
  c167:=by kernel_rfl
  c168:=by kernel_rfl
  c171:=by kernel_rfl
  c173:=by kernel_rfl
  c175:=by kernel_rfl
  c210:=by kernel_rfl
  c212:=by kernel_rfl
  c213:=by kernel_rfl
  c232:=by kernel_rfl
  c233:=by kernel_rfl }
open Go.RowKit in
theorem Tryz.strconv_ParseInt_10_at64_ok (s : ByteArray) (hmax : s.size ≤ 9223372036854775806) (v : Int) (h : Lib.parseIntB 64 s.data.toList = .ok v) (w : World) :
    Calls Tryz.prog 56 #[.string s, .int .i64 10, .int .i64 64] w fun e w' => e = .returned (.tuple #[.int .i64 v, .nilIface]) ∧ (w' = w ∨ ∃ t, w' = Lib.bytesWorld w 5 t):=Any.strconv_ParseInt_10_at64_ok Tryz.laysC174 s hmax v h w
def Tryz.lays144_ren : Go.Shelf.Ren:=⟨fun | 144 => 292 | 143 => 243 | 219 => 289 | 217 => 244 | 225 => 309 | 224 => 136 | 267 => 310 | 266 => 290 | 314 => 315 | n => n, fun | 9 => 9 | 4 => 4 | 3 => 3 | 5 => 5 | 46 => 191 | 146 => 303 | 51 => 302 | n => n, fun | 1 => 0 | n => n⟩
theorem Tryz.lays144 : Go.Proofs.Lays.n144 Tryz.prog Tryz.lays144_ren:={
  mixed:=by kernel_rfl
  f143:=hT func243 (by kernel_rfl)
  f144:=hT func292 (by kernel_rfl)
  f217:=hT func244 (by kernel_rfl)
  f219:=hT func289 (by kernel_rfl)
  f224:=hT func136 (by kernel_rfl)
  f225:=hT func309 (by kernel_rfl)
  f266:=hT func290 (by kernel_rfl)
  f267:=hT func310 (by kernel_rfl)
  f314:=hT func315 (by kernel_rfl)
  t3:=underlying3
  a3:=isAgg3
  z3:=sizeOf3
  v3:=zeroValue3
  t4:=underlying4
  a4:=isAgg4
  z4:=sizeOf4
  v4:=zeroValue4
  t5:=underlying5
  a5:=isAgg5
  z5:=sizeOf5
  v5:=zeroValue5
  t9:=underlying9
  a9:=isAgg9
  z9:=sizeOf9
  v9:=zeroValue9
  t46:=underlying191
  a46:=isAgg191
  z46:=sizeOf191
  v46:=zeroValue191
  t51:=underlying302
  a51:=isAgg302
  z51:=sizeOf302
  v51:=zeroValue302
  t146:=underlying303
  a146:=isAgg303
  z146:=sizeOf303
  v146:=zeroValue303
  g1:=by kernel_rfl }
open Go.RowKit Go.Lib in
theorem Tryz.strings_Contains_one (s : ByteArray) (c : UInt8) (w : World) :
    Calls Tryz.prog 292 #[.string s, .string ⟨#[c]⟩] w fun e w' => e = .returned (.bool (decide (0 ≤ Lib.indexByte s.data.toList c))) ∧ w' = w:=Any.strings_Contains_one Tryz.lays144 s c w
def Tryz.lays145_ren : Go.Shelf.Ren:=⟨fun | 145 => 271 | 220 => 303 | 219 => 289 | 217 => 244 | 225 => 309 | 224 => 136 | 267 => 310 | 266 => 290 | 314 => 315 | n => n, fun | 9 => 9 | 4 => 4 | 59 => 346 | 3 => 3 | 5 => 5 | 46 => 191 | 146 => 303 | 51 => 302 | n => n, fun | 1 => 0 | n => n⟩
theorem Tryz.lays145 : Go.Proofs.Lays.n145 Tryz.prog Tryz.lays145_ren:={
  mixed:=by kernel_rfl
  f145:=hT func271 (by kernel_rfl)
  f217:=hT func244 (by kernel_rfl)
  f219:=hT func289 (by kernel_rfl)
  f220:=hT func303 (by kernel_rfl)
  f224:=hT func136 (by kernel_rfl)
  f225:=hT func309 (by kernel_rfl)
  f266:=hT func290 (by kernel_rfl)
  f267:=hT func310 (by kernel_rfl)
  f314:=hT func315 (by kernel_rfl)
  t3:=underlying3
  a3:=isAgg3
  z3:=sizeOf3
  v3:=zeroValue3
  t4:=underlying4
  a4:=isAgg4
  z4:=sizeOf4
  v4:=zeroValue4
  t5:=underlying5
  a5:=isAgg5
  z5:=sizeOf5
  v5:=zeroValue5
  t9:=underlying9
  a9:=isAgg9
  z9:=sizeOf9
  v9:=zeroValue9
  t46:=underlying191
  a46:=isAgg191
  z46:=sizeOf191
  v46:=zeroValue191
  t51:=underlying302
  a51:=isAgg302
  z51:=sizeOf302
  v51:=zeroValue302
  t59:=underlying346
  a59:=isAgg346
  z59:=sizeOf346
  v59:=zeroValue346
  t146:=underlying303
  a146:=isAgg303
  z146:=sizeOf303
  v146:=zeroValue303
  g1:=by kernel_rfl }
open Go.RowKit Go.Lib in
theorem Tryz.strings_Cut (s sep : ByteArray) (m : Int) (w : World) (hs : s.size < 4294967281) (hm : w.cell? ⟨0, 0, none⟩ = some (.int .i64 m)) :
    Calls Tryz.prog 271 #[.string s, .string sep] w fun e w' => e = .returned (.tuple #[.string ⟨(Lib.cut s.data.toList sep.data.toList).1.toArray⟩, .string ⟨(Lib.cut s.data.toList sep.data.toList).2.1.toArray⟩, .bool (Lib.cut s.data.toList sep.data.toList).2.2]) ∧ ∃ n, w' = w.drewN n:=Any.strings_Cut Tryz.lays145 s sep m w hs hm
def Tryz.lays138_ren : Go.Shelf.Ren:=⟨fun | 138 => 178 | 195 => 241 | 218 => 242 | 143 => 243 | 219 => 289 | 217 => 244 | 225 => 309 | 224 => 136 | 267 => 310 | 266 => 290 | 314 => 315 | n => n, fun | 9 => 9 | 3 => 3 | 4 => 4 | 5 => 5 | 0 => 0 | 46 => 191 | 146 => 303 | 51 => 302 | n => n, fun | 1 => 0 | n => n⟩
theorem Tryz.lays138 : Go.Proofs.Lays.n138 Tryz.prog Tryz.lays138_ren:={
  mixed:=by kernel_rfl
  f138:=hT func178 (by kernel_rfl)
  f143:=hT func243 (by kernel_rfl)
  f195:=hT func241 (by kernel_rfl)
  f217:=hT func244 (by kernel_rfl)
  f218:=hT func242 (by kernel_rfl)
  f219:=hT func289 (by kernel_rfl)
  f224:=hT func136 (by kernel_rfl)
  f225:=hT func309 (by kernel_rfl)
  f266:=hT func290 (by kernel_rfl)
  f267:=hT func310 (by kernel_rfl)
  f314:=hT func315 (by kernel_rfl)
  t0:=underlying0
  a0:=isAgg0
  z0:=sizeOf0
  v0:=zeroValue0
  t3:=underlying3
  a3:=isAgg3
  z3:=sizeOf3
  v3:=zeroValue3
  t4:=underlying4
  a4:=isAgg4
  z4:=sizeOf4
  v4:=zeroValue4
  t5:=underlying5
  a5:=isAgg5
  z5:=sizeOf5
  v5:=zeroValue5
  t9:=underlying9
  a9:=isAgg9
  z9:=sizeOf9
  v9:=zeroValue9
  t46:=underlying191
  a46:=isAgg191
  z46:=sizeOf191
  v46:=zeroValue191
  t51:=underlying302
  a51:=isAgg302
  z51:=sizeOf302
  v51:=zeroValue302
  t146:=underlying303
  a146:=isAgg303
  z146:=sizeOf303
  v146:=zeroValue303
  g1:=by kernel_rfl }
open Go.RowKit Go.Lib in
theorem Tryz.strings_Count_one (s : ByteArray) (c : UInt8) (w : World) :
    Calls Tryz.prog 178 #[.string s, .string ⟨#[c]⟩] w fun e w' => e = .returned (.int .i64 (Lib.countByte s.data.toList c)) ∧ w' = w:=Any.strings_Count_one Tryz.lays138 s c w
def Tryz.lays99_ren : Go.Shelf.Ren:=⟨fun | 99 => 165 | 206 => 208 | n => n, fun | 9 => 9 | 4 => 4 | 3 => 3 | n => n, fun | n => n⟩
theorem Tryz.lays99 : Go.Proofs.Lays.n99 Tryz.prog Tryz.lays99_ren:={
  mixed:=by kernel_rfl
  f99:=hT func165 (by kernel_rfl)
  f206:=hT func208 (by kernel_rfl)
  t3:=underlying3
  a3:=isAgg3
  z3:=sizeOf3
  v3:=zeroValue3
  t4:=underlying4
  a4:=isAgg4
  z4:=sizeOf4
  v4:=zeroValue4
  t9:=underlying9
  a9:=isAgg9
  z9:=sizeOf9
  v9:=zeroValue9 }
open Go.RowKit Go.Lib in
theorem Tryz.strings_HasPrefix (s p : ByteArray) (w : World) :
    Calls Tryz.prog 165 #[.string s, .string p] w fun e w' => e = .returned (.bool (Lib.hasPrefix s.data.toList p.data.toList)) ∧ w' = w:=Any.strings_HasPrefix Tryz.lays99 s p w
def Tryz.lays100_ren : Go.Shelf.Ren:=⟨fun | 100 => 153 | 207 => 219 | n => n, fun | 9 => 9 | 4 => 4 | 3 => 3 | n => n, fun | n => n⟩
theorem Tryz.lays100 : Go.Proofs.Lays.n100 Tryz.prog Tryz.lays100_ren:={
  mixed:=by kernel_rfl
  f100:=hT func153 (by kernel_rfl)
  f207:=hT func219 (by kernel_rfl)
  t3:=underlying3
  a3:=isAgg3
  z3:=sizeOf3
  v3:=zeroValue3
  t4:=underlying4
  a4:=isAgg4
  z4:=sizeOf4
  v4:=zeroValue4
  t9:=underlying9
  a9:=isAgg9
  z9:=sizeOf9
  v9:=zeroValue9 }
open Go.RowKit Go.Lib in
theorem Tryz.strings_HasSuffix (s p : ByteArray) (w : World) (hs : s.size ≤ 9223372036854775807) :
    Calls Tryz.prog 153 #[.string s, .string p] w fun e w' => e = .returned (.bool (Lib.hasSuffix s.data.toList p.data.toList)) ∧ w' = w:=Any.strings_HasSuffix Tryz.lays100 s p w hs
def Tryz.lays102_ren : Go.Shelf.Ren:=⟨fun | 102 => 120 | 209 => 191 | 207 => 219 | n => n, fun | 9 => 9 | 4 => 4 | 3 => 3 | n => n, fun | n => n⟩
theorem Tryz.lays102 : Go.Proofs.Lays.n102 Tryz.prog Tryz.lays102_ren:={
  mixed:=by kernel_rfl
  f102:=hT func120 (by kernel_rfl)
  f207:=hT func219 (by kernel_rfl)
  f209:=hT func191 (by kernel_rfl)
  t3:=underlying3
  a3:=isAgg3
  z3:=sizeOf3
  v3:=zeroValue3
  t4:=underlying4
  a4:=isAgg4
  z4:=sizeOf4
  v4:=zeroValue4
  t9:=underlying9
  a9:=isAgg9
  z9:=sizeOf9
  v9:=zeroValue9 }
open Go.RowKit Go.Lib in
theorem Tryz.strings_TrimSuffix (s p : ByteArray) (w : World) (hs : s.size ≤ 9223372036854775807) :
    Calls Tryz.prog 120 #[.string s, .string p] w fun e w' => e = .returned (.string ⟨(Lib.trimSuffix s.data.toList p.data.toList).toArray⟩) ∧ w' = w:=Any.strings_TrimSuffix Tryz.lays102 s p w hs
def Tryz.lays157_ren : Go.Shelf.Ren:=⟨fun | 157 => 199 | 229 => 265 | 199 => 266 | 261 => 299 | 311 => 311 | 312 => 312 | n => n, fun | 9 => 9 | 31 => 121 | 3 => 3 | 5 => 5 | 4 => 4 | 119 => 340 | 0 => 0 | 40 => 288 | 152 => 370 | 21 => 21 | 154 => 372 | 51 => 302 | 141 => 374 | 196 => 380 | 193 => 377 | 198 => 382 | 49 => 190 | 194 => 378 | 201 => 385 | 226 => 390 | 46 => 191 | 227 => 391 | n => n, fun | 0 => 5 | 6 => 9 | n => n⟩
theorem Tryz.lays157 : Go.Proofs.Lays.n157 Tryz.prog Tryz.lays157_ren:={
  mixed:=by kernel_rfl
  f157:=hT func199 (by kernel_rfl)
  f199:=hT func266 (by kernel_rfl)
  f229:=hT func265 (by kernel_rfl)
  f261:=hT func299 (by kernel_rfl)
  f311:=hT func311 (by kernel_rfl)
  f312:=hT func312 (by kernel_rfl)
  t0:=underlying0
  a0:=isAgg0
  z0:=sizeOf0
  v0:=zeroValue0
  t3:=underlying3
  a3:=isAgg3
  z3:=sizeOf3
  v3:=zeroValue3
  t4:=underlying4
  a4:=isAgg4
  z4:=sizeOf4
  v4:=zeroValue4
  t5:=underlying5
  a5:=isAgg5
  z5:=sizeOf5
  v5:=zeroValue5
  t9:=underlying9
  a9:=isAgg9
  z9:=sizeOf9
  v9:=zeroValue9
  t21:=underlying21
  a21:=isAgg21
  z21:=sizeOf21
  v21:=zeroValue21
  t31:=underlying121
  a31:=isAgg121
  z31:=sizeOf121
  v31:=zeroValue121
  t40:=underlying288
  a40:=isAgg288
  z40:=sizeOf288
  v40:=zeroValue288
  t46:=underlying191
  a46:=isAgg191
  z46:=sizeOf191
  v46:=zeroValue191
  t49:=underlying190
  a49:=isAgg190
  z49:=sizeOf190
  v49:=zeroValue190
  t51:=underlying302
  a51:=isAgg302
  z51:=sizeOf302
  v51:=zeroValue302
  t119:=underlying340
  a119:=isAgg340
  z119:=sizeOf340
  t141:=underlying374
  a141:=isAgg374
  z141:=sizeOf374
  v141:=zeroValue374
  t152:=underlying370
  a152:=isAgg370
  z152:=sizeOf370
  v152:=zeroValue370
  t154:=underlying372
  a154:=isAgg372
  z154:=sizeOf372
  v154:=zeroValue372
  t193:=underlying377
  a193:=isAgg377
  z193:=sizeOf377
  v193:=zeroValue377
  t194:=underlying378
  a194:=isAgg378
  z194:=sizeOf378
  v194:=zeroValue378
  t196:=underlying380
  a196:=isAgg380
  z196:=sizeOf380
  v196:=zeroValue380
  t198:=underlying382
  a198:=isAgg382
  z198:=sizeOf382
  v198:=zeroValue382
  t201:=underlying385
  a201:=isAgg385
  z201:=sizeOf385
  v201:=zeroValue385
  t226:=underlying390
  a226:=isAgg390
  z226:=sizeOf390
  v226:=zeroValue390
  t227:=underlying391
  a227:=isAgg391
  z227:=sizeOf391
  v227:=zeroValue391
  g0:=by kernel_rfl
  g6:=by kernel_rfl }
open Go.RowKit Go.Lib in
theorem Tryz.strings_Fields (s : ByteArray) (w : World) (hs : s.size < 4294967281) (hascii : ∀ (j : Nat) b, s.data.toList[j]? = some b → b.toNat < 128) (htab : Lib.TabIs Tryz.prog w "strings.asciiSpace" .u8 Lib.asciiSpaceTab) :
    Calls Tryz.prog 199 #[.string s] w fun e w' =>
      e = .returned (.slice (some ⟨w.heap.size, 0, none⟩) (Lib.fields s.data.toList).length (Lib.fields s.data.toList).length) ∧ w' = w.alloc (.cells ((Lib.fields s.data.toList).map fun l => Value.string ⟨l.toArray⟩).toArray 9):=Any.strings_Fields Tryz.lays157 (by kernel_rfl) (by kernel_rfl) s w hs hascii htab
def Tryz.lays151_ren : Go.Shelf.Ren:=⟨fun | 151 => 238 | 152 => 287 | 137 => 180 | 119 => 308 | 224 => 136 | 225 => 309 | 217 => 244 | 266 => 290 | n => n, fun | 9 => 9 | 21 => 21 | 4 => 4 | 3 => 3 | 5 => 5 | 0 => 0 | 46 => 191 | n => n, fun | n => n⟩
theorem Tryz.lays151 : Go.Proofs.Lays.n151 Tryz.prog Tryz.lays151_ren:={
  mixed:=by kernel_rfl
  f119:=hT func308 (by kernel_rfl)
  f137:=hT func180 (by kernel_rfl)
  f151:=hT func238 (by kernel_rfl)
  f152:=hT func287 (by kernel_rfl)
  f217:=hT func244 (by kernel_rfl)
  f224:=hT func136 (by kernel_rfl)
  f225:=hT func309 (by kernel_rfl)
  f266:=hT func290 (by kernel_rfl)
  t0:=underlying0
  a0:=isAgg0
  z0:=sizeOf0
  v0:=zeroValue0
  t3:=underlying3
  a3:=isAgg3
  z3:=sizeOf3
  v3:=zeroValue3
  t4:=underlying4
  a4:=isAgg4
  z4:=sizeOf4
  v4:=zeroValue4
  t5:=underlying5
  a5:=isAgg5
  z5:=sizeOf5
  v5:=zeroValue5
  t9:=underlying9
  a9:=isAgg9
  z9:=sizeOf9
  v9:=zeroValue9
  t21:=underlying21
  a21:=isAgg21
  z21:=sizeOf21
  v21:=zeroValue21
  t46:=underlying191
  a46:=isAgg191
  z46:=sizeOf191
  v46:=zeroValue191 }
open Go.RowKit Go.Lib in
theorem Tryz.strings_ContainsRune_ascii (s : ByteArray) (r : Int) (w : World) (h0 : 0 ≤ r) (h1 : r < 128) :
    Calls Tryz.prog 238 #[.string s, .int .i32 r] w fun e w' => e = .returned (.bool (decide (0 ≤ Lib.indexByte s.data.toList r.toNat.toUInt8))) ∧ w' = w:=Any.strings_ContainsRune_ascii Tryz.lays151 s r w h0 h1
def Tryz.lays150_ren : Go.Shelf.Ren:=⟨fun | 150 => 270 | 153 => 302 | 152 => 287 | 226 => 314 | 227 => 172 | 228 => 237 | 137 => 180 | 119 => 308 | 224 => 136 | 225 => 309 | 217 => 244 | 266 => 290 | n => n, fun | 9 => 9 | 4 => 4 | 3 => 3 | 5 => 5 | 21 => 21 | 117 => 270 | 116 => 269 | 0 => 0 | 46 => 191 | 124 => 273 | n => n, fun | n => n⟩
theorem Tryz.lays150 : Go.Proofs.Lays.n150 Tryz.prog Tryz.lays150_ren:={
  mixed:=by kernel_rfl
  f119:=hT func308 (by kernel_rfl)
  f137:=hT func180 (by kernel_rfl)
  f150:=hT func270 (by kernel_rfl)
  f152:=hT func287 (by kernel_rfl)
  f153:=hT func302 (by kernel_rfl)
  f217:=hT func244 (by kernel_rfl)
  f224:=hT func136 (by kernel_rfl)
  f225:=hT func309 (by kernel_rfl)
  f226:=hT func314 (by kernel_rfl)
  f227:=hT func172 (by kernel_rfl)
  f228:=hT func237 (by kernel_rfl)
  f266:=hT func290 (by kernel_rfl)
  t0:=underlying0
  a0:=isAgg0
  z0:=sizeOf0
  v0:=zeroValue0
  t3:=underlying3
  a3:=isAgg3
  z3:=sizeOf3
  v3:=zeroValue3
  t4:=underlying4
  a4:=isAgg4
  z4:=sizeOf4
  v4:=zeroValue4
  t5:=underlying5
  a5:=isAgg5
  z5:=sizeOf5
  v5:=zeroValue5
  t9:=underlying9
  a9:=isAgg9
  z9:=sizeOf9
  v9:=zeroValue9
  t21:=underlying21
  a21:=isAgg21
  z21:=sizeOf21
  v21:=zeroValue21
  t46:=underlying191
  a46:=isAgg191
  z46:=sizeOf191
  v46:=zeroValue191
  t116:=underlying269
  a116:=isAgg269
  z116:=sizeOf269
  t117:=underlying270
  a117:=isAgg270
  z117:=sizeOf270
  v117:=zeroValue270
  t124:=underlying273
  a124:=isAgg273
  z124:=sizeOf273
  v124:=zeroValue273 }
open Go.RowKit Go.Lib in
theorem Tryz.strings_ContainsAny_laid (s chars : ByteArray) (w : World) (hs : s.size < 4294967281) (hcs : chars.size < 4294967281) (has : ∀ (j : Nat) b, s.data.toList[j]? = some b → b.toNat < 128) (hac : ∀ (j : Nat) b, chars.data.toList[j]? = some b → b.toNat < 128) :
    Calls Tryz.prog 270 #[.string s, .string chars] w fun e w' => e = .returned (.bool (Lib.containsAny s.data.toList chars.data.toList)) ∧ Below w.heap.size w w':=Any.strings_ContainsAny_laid Tryz.lays150 (by kernel_rfl) s chars w hs hcs has hac
def Tryz.lays212_ren : Go.Shelf.Ren:=⟨fun | 212 => 149 | 263 => 217 | 264 => 218 | n => n, fun | 46 => 191 | 51 => 302 | 146 => 303 | 53 => 255 | 148 => 314 | n => n, fun | n => n⟩
theorem Tryz.lays212 : Go.Proofs.Lays.n212 Tryz.prog Tryz.lays212_ren:={
  mixed:=by kernel_rfl
  f212:=hT func149 (by kernel_rfl)
  f263:=hT func217 (by kernel_rfl)
  f264:=hT func218 (by kernel_rfl)
  t46:=underlying191
  a46:=isAgg191
  z46:=sizeOf191
  v46:=zeroValue191
  t51:=underlying302
  a51:=isAgg302
  z51:=sizeOf302
  v51:=zeroValue302
  t53:=underlying255
  a53:=isAgg255
  z53:=sizeOf255
  v53:=zeroValue255
  t146:=underlying303
  a146:=isAgg303
  z146:=sizeOf303
  v146:=zeroValue303
  t148:=underlying314
  a148:=isAgg314
  z148:=sizeOf314
  v148:=zeroValue314 }
open Go.RowKit Go.Lib in
theorem Tryz.bits_Mul (x y : Nat) (hx : x < 18446744073709551616) (hy : y < 18446744073709551616) (w : World) :
    Calls Tryz.prog 149 #[.int .u64 x, .int .u64 y] w fun e w' => e = .returned (.tuple #[.int .u64 ((x * y / 18446744073709551616 : Nat) : Int), .int .u64 ((x * y % 18446744073709551616 : Nat) : Int)]) ∧ w' = w:=Any.bits_Mul Tryz.lays212 x y hx hy w
def Tryz.lays105_ren : Go.Shelf.Ren:=⟨fun | 105 => 106 | 212 => 149 | 99 => 165 | 165 => 166 | 166 => 167 | 170 => 168 | 169 => 169 | 263 => 217 | 264 => 218 | 206 => 208 | 240 => 235 | 241 => 236 | 276 => 286 | 277 => 150 | n => n, fun | 9 => 9 | 3 => 3 | 4 => 4 | 20 => 20 | 0 => 0 | 46 => 191 | 109 => 244 | 5 => 5 | 72 => 263 | 76 => 265 | 51 => 302 | 146 => 303 | 53 => 255 | 148 => 314 | 70 => 261 | 37 => 22 | 75 => 134 | 127 => 325 | 164 => 362 | 80 => 67 | n => n, fun | n => n⟩
theorem Tryz.lays105 : Go.Proofs.Lays.n105 Tryz.prog Tryz.lays105_ren:={
  mixed:=by kernel_rfl
  f99:=hT func165 (by kernel_rfl)
  f105:=hT func106 (by kernel_rfl)
  f165:=hT func166 (by kernel_rfl)
  f166:=hT func167 (by kernel_rfl)
  f169:=hT func169 (by kernel_rfl)
  f170:=hT func168 (by kernel_rfl)
  f206:=hT func208 (by kernel_rfl)
  f212:=hT func149 (by kernel_rfl)
  f240:=hT func235 (by kernel_rfl)
  f241:=hT func236 (by kernel_rfl)
  f263:=hT func217 (by kernel_rfl)
  f264:=hT func218 (by kernel_rfl)
  f276:=hT func286 (by kernel_rfl)
  f277:=hT func150 (by kernel_rfl)
  t0:=underlying0
  a0:=isAgg0
  z0:=sizeOf0
  v0:=zeroValue0
  t3:=underlying3
  a3:=isAgg3
  z3:=sizeOf3
  v3:=zeroValue3
  t4:=underlying4
  a4:=isAgg4
  z4:=sizeOf4
  v4:=zeroValue4
  t5:=underlying5
  a5:=isAgg5
  z5:=sizeOf5
  v5:=zeroValue5
  t9:=underlying9
  a9:=isAgg9
  z9:=sizeOf9
  v9:=zeroValue9
  t20:=underlying20
  a20:=isAgg20
  z20:=sizeOf20
  v20:=zeroValue20
  t37:=underlying22
  a37:=isAgg22
  z37:=sizeOf22
  v37:=zeroValue22
  t46:=underlying191
  a46:=isAgg191
  z46:=sizeOf191
  v46:=zeroValue191
  t51:=underlying302
  a51:=isAgg302
  z51:=sizeOf302
  v51:=zeroValue302
  t53:=underlying255
  a53:=isAgg255
  z53:=sizeOf255
  v53:=zeroValue255
  t70:=underlying261
  a70:=isAgg261
  z70:=sizeOf261
  v70:=zeroValue261
  t72:=underlying263
  a72:=isAgg263
  z72:=sizeOf263
  v72:=zeroValue263
  t75:=underlying134
  a75:=isAgg134
  z75:=sizeOf134
  v75:=zeroValue134
  t76:=underlying265
  a76:=isAgg265
  z76:=sizeOf265
  v76:=zeroValue265
  t109:=underlying244
  a109:=isAgg244
  z109:=sizeOf244
  v109:=zeroValue244
  t127:=underlying325
  a127:=isAgg325
  z127:=sizeOf325
  v127:=zeroValue325
  t146:=underlying303
  a146:=isAgg303
  z146:=sizeOf303
  v146:=zeroValue303
  t148:=underlying314
  a148:=isAgg314
  z148:=sizeOf314
  v148:=zeroValue314
  t164:=underlying362
  a164:=isAgg362
  z164:=sizeOf362
  v164:=zeroValue362 }
theorem Tryz.Builder_Extra_105 : Builder.Extra Tryz.prog Tryz.lays105_ren:={
  sizeBuilder:=by kernel_rfl
  liesBuilder:=by kernel_rfl
  t5:=underlying5
  a5:=isAgg5
  z5:=sizeOf5
  v5:=zeroValue5
  infoByte:=by kernel_rfl
  cellsByte:=by kernel_rfl
  sizeByte:=by kernel_rfl
  neB5:=by decide }
open Go.RowKit Go.Lib in
theorem Tryz.strings_Repeat (s : ByteArray) (c : Nat) (w : World) (hc : c ≤ 9223372036854775807) (hlen : s.size * c ≤ 140737488355328) :
    Calls Tryz.prog 106 #[.string s, .int .i64 c] w fun e w' => e = .returned (.string ⟨(Lib.repeatL s.data.toList c).toArray⟩) ∧ Below w.heap.size w w':=Any.strings_Repeat Tryz.lays105 Tryz.Builder_Extra_105 s c w hc hlen
def Tryz.lays185_ren : Go.Shelf.Ren:=⟨fun | 185 => 78 | 187 => 133 | 115 => 134 | 253 => 135 | 224 => 136 | 254 => 137 | 255 => 206 | 291 => 207 | n => n, fun | 37 => 22 | 3 => 3 | 4 => 4 | 0 => 0 | 5 => 5 | 46 => 191 | 9 => 9 | 146 => 303 | 51 => 302 | n => n, fun | 1 => 0 | n => n⟩
theorem Tryz.lays185 : Go.Proofs.Lays.n185 Tryz.prog Tryz.lays185_ren:={
  mixed:=by kernel_rfl
  f115:=hT func134 (by kernel_rfl)
  f185:=hT func78 (by kernel_rfl)
  f187:=hT func133 (by kernel_rfl)
  f224:=hT func136 (by kernel_rfl)
  f253:=hT func135 (by kernel_rfl)
  f254:=hT func137 (by kernel_rfl)
  f255:=hT func206 (by kernel_rfl)
  f291:=hT func207 (by kernel_rfl)
  t0:=underlying0
  a0:=isAgg0
  z0:=sizeOf0
  v0:=zeroValue0
  t3:=underlying3
  a3:=isAgg3
  z3:=sizeOf3
  v3:=zeroValue3
  t4:=underlying4
  a4:=isAgg4
  z4:=sizeOf4
  v4:=zeroValue4
  t5:=underlying5
  a5:=isAgg5
  z5:=sizeOf5
  v5:=zeroValue5
  t9:=underlying9
  a9:=isAgg9
  z9:=sizeOf9
  v9:=zeroValue9
  t37:=underlying22
  a37:=isAgg22
  z37:=sizeOf22
  v37:=zeroValue22
  t46:=underlying191
  a46:=isAgg191
  z46:=sizeOf191
  v46:=zeroValue191
  t51:=underlying302
  a51:=isAgg302
  z51:=sizeOf302
  v51:=zeroValue302
  t146:=underlying303
  a146:=isAgg303
  z146:=sizeOf303
  v146:=zeroValue303
  g1:=by kernel_rfl }
open Go.RowKit Go.Lib in
theorem Tryz.bytes_Index_one (b o n c b2 o2 d : Nat) (xs : List Int) (cv : Int) (w : World) (hx : xs.length = n) (hc : ∀ i, i < n → w.cell? ⟨b, o + i, none⟩ = some (.int .u8 (xs.getD i 0))) (hc2 : w.cell? ⟨b2, o2, none⟩ = some (.int .u8 cv)) :
    Calls Tryz.prog 78 #[.slice (some ⟨b, o, none⟩) n c, .slice (some ⟨b2, o2, none⟩) 1 d] w fun e w' => e = .returned (.int .i64 (Lib.indexByte (Lib.bytesOf xs) cv.toNat.toUInt8)) ∧ w' = w:=Any.bytes_Index_one Tryz.lays185 b o n c b2 o2 d xs cv w hx hc hc2
open Go.RowKit Go.Lib in
theorem Tryz.bytes_Index_none (p q : Option Addr) (n c d : Nat) (w : World) :
    Calls Tryz.prog 78 #[.slice p n c, .slice q 0 d] w fun e w' => e = .returned (.int .i64 0) ∧ w' = w:=Any.bytes_Index_none Tryz.lays185 p q n c d w
open Go.RowKit Go.Lib in
theorem Tryz.bytes_Index_longer (p q : Option Addr) (n c m d : Nat) (w : World) (h2 : 2 ≤ m) (hnm : n < m) (hm : m ≤ 9223372036854775807) :
    Calls Tryz.prog 78 #[.slice p n c, .slice q m d] w fun e w' => e = .returned (.int .i64 (-1)) ∧ w' = w:=Any.bytes_Index_longer Tryz.lays185 p q n c m d w h2 hnm hm
open Go.RowKit Go.Lib in
theorem Tryz.bytes_Index_same (b o c b2 o2 d n : Nat) (xs ys : List Int) (w : World) (h2 : 2 ≤ n) (hm : n ≤ 9223372036854775807) (hx : xs.length = n) (hy : ys.length = n) (hc : ∀ i, i < n → w.cell? ⟨b, o + i, none⟩ = some (.int .u8 (xs.getD i 0))) (hc2 : ∀ i, i < n → w.cell? ⟨b2, o2 + i, none⟩ = some (.int .u8 (ys.getD i 0))) :
    Calls Tryz.prog 78 #[.slice (some ⟨b, o, none⟩) n c, .slice (some ⟨b2, o2, none⟩) n d] w fun e w' => e = .returned (.int .i64 (if Lib.bytesOf ys == Lib.bytesOf xs then 0 else -1)) ∧ w' = w:=Any.bytes_Index_same Tryz.lays185 b o c b2 o2 d n xs ys w h2 hm hx hy hc hc2
open Go.Proofs Go.RowKit Go.Lib in
theorem Tryz.bytes_Index_at (a1 a2 : Addr) (n c1 k c2 : Nat) (xs ys : List Int) (m : Int) (w : World) (hx : xs.length = n) (hy : ys.length = k) (hr1 : ∀ x ∈ xs, 0 ≤ x ∧ x < 256) (hr2 : ∀ y ∈ ys, 0 ≤ y ∧ y < 256) (hc1 : ∀ i, i < n → w.cell? (a1.add i) = some (.int .u8 (xs.getD i 0))) (hc2 : ∀ i, i < k → w.cell? (a2.add i) = some (.int .u8 (ys.getD i 0))) (hcap : n ≤ c1) (hs : n < 4294967281) (hk : k ≤ 9223372036854775807) (hm : w.cell? ⟨0, 0, none⟩ = some (.int .i64 m)) :
    Calls Tryz.prog 78 #[.slice (some a1) n c1, .slice (some a2) k c2] w fun e w' => e = .returned (.int .i64 (Lib.index (Lib.bytesOf xs) (Lib.bytesOf ys))) ∧ ∃ q, w' = w.drewN q:=Any.bytes_Index_at Tryz.lays185 a1 a2 n c1 k c2 xs ys m w hx hy hr1 hr2 hc1 hc2 hcap hs hk hm
end Go.Proofs
