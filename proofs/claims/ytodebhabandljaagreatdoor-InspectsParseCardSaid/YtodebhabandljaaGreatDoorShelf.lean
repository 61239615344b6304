/-
  Contracts of the library functions that the law reaches.
-/
import Derived.Shelf.Strings.Builder1
import Derived.Shelf.Strings.Builder2
import Derived.Shelf.Strings.Trim
import Derived.Shelf.Small.Utf8
import Derived.Shelf.Small.Strs
import Derived.Shelf.Small.Wraps
import Derived.Shelf.Strings.BuilderF
import Derived.Shelf.Strings.BuilderK
import Derived.Shelf.Strings.BuilderRune
import Derived.Shelf.Strings.Builder2Cap
import Derived.Shelf.Strconv.Atoi
import Derived.Shelf.Strconv.Itoa0
import Derived.Shelf.Strconv.Itoa1
import Derived.Shelf.LaysM
import Derived.Shelf.Strconv.Itoa2
import Derived.Shelf.Strconv.Itoa3
import Derived.Shelf.Strconv.Itoa4
import Derived.Shelf.Strconv.ParseIntEmpty
import Derived.Shelf.Strconv.Clone
import Derived.Shelf.Strconv.SyntaxError
import Derived.Shelf.LaysC
import Derived.Shelf.Strconv.ToError
import Derived.Shelf.Strconv.Lower
import Derived.Shelf.Strconv.ParseUint10
import Derived.Shelf.Strconv.ParseUint10Empty
import Derived.Shelf.Strconv.ParseUint10Any
import Derived.Shelf.Strconv.ParseInt10
import Derived.Shelf.Strconv.RangeError
import Derived.Shelf.Strconv.ToErrorRange
import Derived.Shelf.Strconv.ParseUintEmpty
import Derived.Shelf.Strconv.ParseUint10b64
import Derived.Shelf.Strconv.ParseUint10b32
import Derived.Shelf.Strconv.ParseUint10b16
import Derived.Shelf.Strconv.ParseUint10b8
import Derived.Shelf.Strconv.ParseUint10At
import Derived.Shelf.Strconv.ParseInt10At64
import Derived.Shelf.Strconv.ParseInt10At32
import Derived.Shelf.Strconv.ParseInt10At16
import Derived.Shelf.Strconv.ParseInt10At8
import Derived.Shelf.Strconv.ParseInt10All
import Derived.Shelf.Strings.Search1
import Derived.Shelf.Strings.Search2
import Derived.Shelf.Strings.Search3
import Derived.Shelf.Strings.Cut
import Derived.Shelf.Strings.Count
import Derived.Shelf.Strings.Shaped
import Derived.Shelf.GgClosure.StringsIndexFunc
import Derived.Shelf.Strings.Prefix
import Derived.Shelf.Strings.Split
import Derived.Shelf.Strings.Fields
import Derived.Shelf.Strings.Runes
import Derived.Shelf.Strings.IndexAny
import Derived.Shelf.Strings.AsciiSet
import Derived.Shelf.Strings.IndexAnyAll
import Derived.Shelf.Bits.Mul64
import Derived.Shelf.Strings.Repeat
import Derived.Shelf.Unicode.DecodeSlow
import Derived.Shelf.Unicode.DecodeAny
import Derived.Shelf.Strings.MapAny
import Derived.Shelf.Strings.BuilderCap
import Derived.Shelf.Strings.MapGrows
import Derived.Shelf.Bytes.SlIndexSmall
import Derived.Shelf.Bytes.SlIndexAt
import Derived.Shelf.Bytes.SlSearch0
import Derived.Shelf.Bytes.SlSearch1
import Derived.Shelf.Bytes.SlSearch2
import Derived.Shelf.Bytes.SlIndexWhole
import Derived.Shelf.Bytes.SlSmallAll
import Derived.Shelf.Bytes.SlEqualAll
import Derived.Shelf.Bytes.Small
import Derived.Shelf.Bytes.IndexByte
import Derived.Test.YtodebhabandljaaGreatDoorProg
namespace Go.Proofs
open Go.Shelf
open Tryz
theorem hT{α:Type}{a:Option α}{b c:α}(h:a=some b)(e:b=c):a=some c:=h.trans (congrArg some e)
def Tryz.lays161_ren : Go.Shelf.Ren:=⟨fun | 161 => 155 | 231 => 200 | 227 => 201 | 233 => 202 | 235 => 203 | 228 => 254 | 197 => 253 | 151 => 231 | 260 => 294 | 152 => 273 | 137 => 267 | 119 => 299 | 224 => 192 | 225 => 218 | 217 => 217 | 266 => 263 | n => n, fun | 9 => 9 | 4 => 4 | 3 => 3 | 5 => 5 | 117 => 296 | 116 => 295 | 0 => 0 | 124 => 299 | 105 => 349 | 21 => 21 | 119 => 241 | 46 => 134 | 139 => 379 | 138 => 378 | n => n, fun | 3 => 6 | 4 => 7 | n => n⟩
theorem Tryz.lays161 : Go.Proofs.Lays.n161 Tryz.prog Tryz.lays161_ren:={
  mixed:=by kernel_rfl
  f119:=hT func299 (by kernel_rfl)
  f137:=hT func267 (by kernel_rfl)
  f151:=hT func231 (by kernel_rfl)
  f152:=hT func273 (by kernel_rfl)
  f161:=hT func155 (by kernel_rfl)
  f197:=hT func253 (by kernel_rfl)
  f217:=hT func217 (by kernel_rfl)
  f224:=hT func192 (by kernel_rfl)
  f225:=hT func218 (by kernel_rfl)
  f227:=hT func201 (by kernel_rfl)
  f228:=hT func254 (by kernel_rfl)
  f231:=hT func200 (by kernel_rfl)
  f233:=hT func202 (by kernel_rfl)
  f235:=hT func203 (by kernel_rfl)
  f260:=hT func294 (by kernel_rfl)
  f266:=hT func263 (by kernel_rfl)
  t0:=underlying0
  a0:=isAgg0
  z0:=sizeOf0
  v0:=zeroValue0
  t3:=underlying3
  a3:=isAgg3
  z3:=sizeOf3
  v3:=zeroValue3
  t4:=underlying4
  a4:=isAgg4
  z4:=sizeOf4
  v4:=zeroValue4
  t5:=underlying5
  a5:=isAgg5
  z5:=sizeOf5
  v5:=zeroValue5
  t9:=underlying9
  a9:=isAgg9
  z9:=sizeOf9
  v9:=zeroValue9
  t21:=underlying21
  a21:=isAgg21
  z21:=sizeOf21
  v21:=zeroValue21
  t46:=underlying134
  a46:=isAgg134
  z46:=sizeOf134
  v46:=zeroValue134
  t105:=underlying349
  a105:=isAgg349
  z105:=sizeOf349
  v105:=zeroValue349
  t116:=underlying295
  a116:=isAgg295
  z116:=sizeOf295
  t117:=underlying296
  a117:=isAgg296
  z117:=sizeOf296
  v117:=zeroValue296
  t119:=underlying241
  a119:=isAgg241
  z119:=sizeOf241
  t124:=underlying299
  a124:=isAgg299
  z124:=sizeOf299
  v124:=zeroValue299
  t138:=underlying378
  a138:=isAgg378
  z138:=sizeOf378
  v138:=zeroValue378
  t139:=underlying379
  a139:=isAgg379
  z139:=sizeOf379
  v139:=zeroValue379
  g3:=by kernel_rfl
  g4:=by kernel_rfl }
def Tryz.lays162_ren : Go.Shelf.Ren:=⟨fun | 162 => 205 | 232 => 243 | 227 => 201 | 234 => 244 | 236 => 245 | 228 => 254 | 271 => 289 | 151 => 231 | 120 => 303 | 197 => 253 | 152 => 273 | 260 => 294 | 137 => 267 | 119 => 299 | 224 => 192 | 225 => 218 | 217 => 217 | 266 => 263 | n => n, fun | 9 => 9 | 4 => 4 | 3 => 3 | 5 => 5 | 117 => 296 | 116 => 295 | 0 => 0 | 124 => 299 | 21 => 21 | 105 => 349 | 46 => 134 | 119 => 241 | 139 => 379 | 138 => 378 | n => n, fun | 3 => 6 | 4 => 7 | n => n⟩
theorem Tryz.lays162 : Go.Proofs.Lays.n162 Tryz.prog Tryz.lays162_ren:={
  mixed:=by kernel_rfl
  f119:=hT func299 (by kernel_rfl)
  f120:=hT func303 (by kernel_rfl)
  f137:=hT func267 (by kernel_rfl)
  f151:=hT func231 (by kernel_rfl)
  f152:=hT func273 (by kernel_rfl)
  f162:=hT func205 (by kernel_rfl)
  f197:=hT func253 (by kernel_rfl)
  f217:=hT func217 (by kernel_rfl)
  f224:=hT func192 (by kernel_rfl)
  f225:=hT func218 (by kernel_rfl)
  f227:=hT func201 (by kernel_rfl)
  f228:=hT func254 (by kernel_rfl)
  f232:=hT func243 (by kernel_rfl)
  f234:=hT func244 (by kernel_rfl)
  f236:=hT func245 (by kernel_rfl)
  f260:=hT func294 (by kernel_rfl)
  f266:=hT func263 (by kernel_rfl)
  f271:=hT func289 (by kernel_rfl)
  t0:=underlying0
  a0:=isAgg0
  z0:=sizeOf0
  v0:=zeroValue0
  t3:=underlying3
  a3:=isAgg3
  z3:=sizeOf3
  v3:=zeroValue3
  t4:=underlying4
  a4:=isAgg4
  z4:=sizeOf4
  v4:=zeroValue4
  t5:=underlying5
  a5:=isAgg5
  z5:=sizeOf5
  v5:=zeroValue5
  t9:=underlying9
  a9:=isAgg9
  z9:=sizeOf9
  v9:=zeroValue9
  t21:=underlying21
  a21:=isAgg21
  z21:=sizeOf21
  v21:=zeroValue21
  t46:=underlying134
  a46:=isAgg134
  z46:=sizeOf134
  v46:=zeroValue134
  t105:=underlying349
  a105:=isAgg349
  z105:=sizeOf349
  v105:=zeroValue349
  t116:=underlying295
  a116:=isAgg295
  z116:=sizeOf295
  t117:=underlying296
  a117:=isAgg296
  z117:=sizeOf296
  v117:=zeroValue296
  t119:=underlying241
  a119:=isAgg241
  z119:=sizeOf241
  t124:=underlying299
  a124:=isAgg299
  z124:=sizeOf299
  v124:=zeroValue299
  t138:=underlying378
  a138:=isAgg378
  z138:=sizeOf378
  v138:=zeroValue378
  t139:=underlying379
  a139:=isAgg379
  z139:=sizeOf379
  v139:=zeroValue379
  g3:=by kernel_rfl
  g4:=by kernel_rfl }
def Tryz.lays160_ren : Go.Shelf.Ren:=⟨fun | 160 => 185 | 232 => 243 | 231 => 200 | 227 => 201 | 234 => 244 | 233 => 202 | 236 => 245 | 235 => 203 | 228 => 254 | 271 => 289 | 151 => 231 | 197 => 253 | 120 => 303 | 152 => 273 | 260 => 294 | 137 => 267 | 119 => 299 | 224 => 192 | 225 => 218 | 217 => 217 | 266 => 263 | n => n, fun | 9 => 9 | 4 => 4 | 3 => 3 | 5 => 5 | 117 => 296 | 116 => 295 | 0 => 0 | 124 => 299 | 21 => 21 | 105 => 349 | 46 => 134 | 119 => 241 | 139 => 379 | 138 => 378 | n => n, fun | 3 => 6 | 4 => 7 | n => n⟩
theorem Tryz.lays160 : Go.Proofs.Lays.n160 Tryz.prog Tryz.lays160_ren:={
  mixed:=by kernel_rfl
  f119:=hT func299 (by kernel_rfl)
  f120:=hT func303 (by kernel_rfl)
  f137:=hT func267 (by kernel_rfl)
  f151:=hT func231 (by kernel_rfl)
  f152:=hT func273 (by kernel_rfl)
  f160:=hT func185 (by kernel_rfl)
  f197:=hT func253 (by kernel_rfl)
  f217:=hT func217 (by kernel_rfl)
  f224:=hT func192 (by kernel_rfl)
  f225:=hT func218 (by kernel_rfl)
  f227:=hT func201 (by kernel_rfl)
  f228:=hT func254 (by kernel_rfl)
  f231:=hT func200 (by kernel_rfl)
  f232:=hT func243 (by kernel_rfl)
  f233:=hT func202 (by kernel_rfl)
  f234:=hT func244 (by kernel_rfl)
  f235:=hT func203 (by kernel_rfl)
  f236:=hT func245 (by kernel_rfl)
  f260:=hT func294 (by kernel_rfl)
  f266:=hT func263 (by kernel_rfl)
  f271:=hT func289 (by kernel_rfl)
  t0:=underlying0
  a0:=isAgg0
  z0:=sizeOf0
  v0:=zeroValue0
  t3:=underlying3
  a3:=isAgg3
  z3:=sizeOf3
  v3:=zeroValue3
  t4:=underlying4
  a4:=isAgg4
  z4:=sizeOf4
  v4:=zeroValue4
  t5:=underlying5
  a5:=isAgg5
  z5:=sizeOf5
  v5:=zeroValue5
  t9:=underlying9
  a9:=isAgg9
  z9:=sizeOf9
  v9:=zeroValue9
  t21:=underlying21
  a21:=isAgg21
  z21:=sizeOf21
  v21:=zeroValue21
  t46:=underlying134
  a46:=isAgg134
  z46:=sizeOf134
  v46:=zeroValue134
  t105:=underlying349
  a105:=isAgg349
  z105:=sizeOf349
  v105:=zeroValue349
  t116:=underlying295
  a116:=isAgg295
  z116:=sizeOf295
  t117:=underlying296
  a117:=isAgg296
  z117:=sizeOf296
  v117:=zeroValue296
  t119:=underlying241
  a119:=isAgg241
  z119:=sizeOf241
  t124:=underlying299
  a124:=isAgg299
  z124:=sizeOf299
  v124:=zeroValue299
  t138:=underlying378
  a138:=isAgg378
  z138:=sizeOf378
  v138:=zeroValue378
  t139:=underlying379
  a139:=isAgg379
  z139:=sizeOf379
  v139:=zeroValue379
  g3:=by kernel_rfl
  g4:=by kernel_rfl }
def Tryz.lays118_ren : Go.Shelf.Ren:=⟨fun | 118 => 270 | n => n, fun | 21 => 21 | 3 => 3 | 4 => 4 | n => n, fun | n => n⟩
theorem Tryz.lays118 : Go.Proofs.Lays.n118 Tryz.prog Tryz.lays118_ren:={
  mixed:=by kernel_rfl
  f118:=hT func270 (by kernel_rfl)
  t3:=underlying3
  a3:=isAgg3
  z3:=sizeOf3
  v3:=zeroValue3
  t4:=underlying4
  a4:=isAgg4
  z4:=sizeOf4
  v4:=zeroValue4
  t21:=underlying21
  a21:=isAgg21
  z21:=sizeOf21
  v21:=zeroValue21 }
theorem Tryz.utf8_RuneLen (r : Int) (w : World) :
    Calls Tryz.prog 270 #[.int .i32 r] w fun e w' => e = .returned (.int .i64 (Lib.runeLen r)) ∧ w' = w:=Any.utf8_RuneLen Tryz.lays118 r w
def Tryz.lays137_ren : Go.Shelf.Ren:=⟨fun | 137 => 267 | 217 => 217 | 266 => 263 | n => n, fun | 9 => 9 | 5 => 5 | 3 => 3 | n => n, fun | n => n⟩
theorem Tryz.lays137 : Go.Proofs.Lays.n137 Tryz.prog Tryz.lays137_ren:={
  mixed:=by kernel_rfl
  f137:=hT func267 (by kernel_rfl)
  f217:=hT func217 (by kernel_rfl)
  f266:=hT func263 (by kernel_rfl)
  t3:=underlying3
  a3:=isAgg3
  z3:=sizeOf3
  v3:=zeroValue3
  t5:=underlying5
  a5:=isAgg5
  z5:=sizeOf5
  v5:=zeroValue5
  t9:=underlying9
  a9:=isAgg9
  z9:=sizeOf9
  v9:=zeroValue9 }
open Go.RowKit in
theorem Tryz.strings_IndexByte (s : ByteArray) (c : Int) (w : World) :
    Calls Tryz.prog 267 #[.string s, .int .u8 c] w fun e w' => e = .returned (.int .i64 (Lib.indexByte s.data.toList c.toNat.toUInt8)) ∧ w' = w:=Any.strings_IndexByte Tryz.lays137 s c w
def Tryz.lays103_ren : Go.Shelf.Ren:=⟨fun | 103 => 134 | 210 => 181 | 206 => 160 | n => n, fun | 9 => 9 | 4 => 4 | 24 => 223 | 3 => 3 | n => n, fun | n => n⟩
theorem Tryz.lays103 : Go.Proofs.Lays.n103 Tryz.prog Tryz.lays103_ren:={
  mixed:=by kernel_rfl
  f103:=hT func134 (by kernel_rfl)
  f206:=hT func160 (by kernel_rfl)
  f210:=hT func181 (by kernel_rfl)
  t3:=underlying3
  a3:=isAgg3
  z3:=sizeOf3
  v3:=zeroValue3
  t4:=underlying4
  a4:=isAgg4
  z4:=sizeOf4
  v4:=zeroValue4
  t9:=underlying9
  a9:=isAgg9
  z9:=sizeOf9
  v9:=zeroValue9
  t24:=underlying223
  a24:=isAgg223
  z24:=sizeOf223
  v24:=zeroValue223 }
open Go.RowKit in
theorem Tryz.strings_CutPrefix (s p : ByteArray) (w : World) :
    Calls Tryz.prog 134 #[.string s, .string p] w fun e w' => e = .returned (.tuple #[.string ⟨(Lib.trimPrefix s.data.toList p.data.toList).toArray⟩, .bool (Lib.hasPrefix s.data.toList p.data.toList)]) ∧ w' = w:=Any.strings_CutPrefix Tryz.lays103 s p w
def Tryz.lays104_ren : Go.Shelf.Ren:=⟨fun | 104 => 228 | 211 => 269 | 207 => 198 | n => n, fun | 9 => 9 | 4 => 4 | 24 => 223 | 3 => 3 | n => n, fun | n => n⟩
theorem Tryz.lays104 : Go.Proofs.Lays.n104 Tryz.prog Tryz.lays104_ren:={
  mixed:=by kernel_rfl
  f104:=hT func228 (by kernel_rfl)
  f207:=hT func198 (by kernel_rfl)
  f211:=hT func269 (by kernel_rfl)
  t3:=underlying3
  a3:=isAgg3
  z3:=sizeOf3
  v3:=zeroValue3
  t4:=underlying4
  a4:=isAgg4
  z4:=sizeOf4
  v4:=zeroValue4
  t9:=underlying9
  a9:=isAgg9
  z9:=sizeOf9
  v9:=zeroValue9
  t24:=underlying223
  a24:=isAgg223
  z24:=sizeOf223
  v24:=zeroValue223 }
open Go.RowKit in
theorem Tryz.strings_CutSuffix (s p : ByteArray) (w : World) (hs : s.size ≤ 9223372036854775807) :
    Calls Tryz.prog 228 #[.string s, .string p] w fun e w' => e = .returned (.tuple #[.string ⟨(Lib.trimSuffix s.data.toList p.data.toList).toArray⟩, .bool (Lib.hasSuffix s.data.toList p.data.toList)]) ∧ w' = w:=Any.strings_CutSuffix Tryz.lays104 s p w hs
def Tryz.lays172_ren : Go.Shelf.Ren:=⟨fun | 172 => 265 | 244 => 295 | 245 => 296 | 247 => 306 | 279 => 307 | 280 => 308 | 281 => 309 | 282 => 310 | 287 => 312 | 316 => 313 | 171 => 179 | 205 => 314 | 321 => 315 | 322 => 316 | 243 => 236 | 246 => 182 | 283 => 237 | 284 => 238 | 285 => 239 | 286 => 240 | 129 => 285 | 317 => 284 | 318 => 286 | 319 => 287 | 320 => 288 | 337 => 301 | 338 => 302 | n => n, fun | 9 => 9 | 3 => 3 | 75 => 203 | 76 => 204 | 4 => 4 | 5 => 5 | 167 => 380 | 37 => 22 | 0 => 0 | 85 => 381 | 2 => 2 | 168 => 383 | 53 => 258 | 175 => 388 | 46 => 134 | 210 => 391 | 127 => 261 | 145 => 396 | 143 => 394 | 21 => 21 | 171 => 323 | 173 => 326 | 212 => 363 | 51 => 255 | 20 => 20 | 213 => 364 | 232 => 386 | 233 => 387 | 80 => 100 | n => n, fun | 15 => 10 | 16 => 11 | 17 => 4 | 18 => 8 | 19 => 9 | n => n⟩
theorem Tryz.lays172 : Go.Proofs.Lays.n172 Tryz.prog Tryz.lays172_ren:={
  mixed:=by kernel_rfl
  f129:=hT func285 (by kernel_rfl)
  f171:=hT func179 (by kernel_rfl)
  f172:=hT func265 (by kernel_rfl)
  f205:=hT func314 (by kernel_rfl)
  f243:=hT func236 (by kernel_rfl)
  f244:=hT func295 (by kernel_rfl)
  f245:=hT func296 (by kernel_rfl)
  f246:=hT func182 (by kernel_rfl)
  f247:=hT func306 (by kernel_rfl)
  f279:=hT func307 (by kernel_rfl)
  f280:=hT func308 (by kernel_rfl)
  f281:=hT func309 (by kernel_rfl)
  f282:=hT func310 (by kernel_rfl)
  f283:=hT func237 (by kernel_rfl)
  f284:=hT func238 (by kernel_rfl)
  f285:=hT func239 (by kernel_rfl)
  f286:=hT func240 (by kernel_rfl)
  f287:=hT func312 (by kernel_rfl)
  f316:=hT func313 (by kernel_rfl)
  f317:=hT func284 (by kernel_rfl)
  f318:=hT func286 (by kernel_rfl)
  f319:=hT func287 (by kernel_rfl)
  f320:=hT func288 (by kernel_rfl)
  f321:=hT func315 (by kernel_rfl)
  f322:=hT func316 (by kernel_rfl)
  f337:=hT func301 (by kernel_rfl)
  f338:=hT func302 (by kernel_rfl)
  t0:=underlying0
  a0:=isAgg0
  z0:=sizeOf0
  v0:=zeroValue0
  t2:=underlying2
  a2:=isAgg2
  z2:=sizeOf2
  v2:=zeroValue2
  t3:=underlying3
  a3:=isAgg3
  z3:=sizeOf3
  v3:=zeroValue3
  t4:=underlying4
  a4:=isAgg4
  z4:=sizeOf4
  v4:=zeroValue4
  t5:=underlying5
  a5:=isAgg5
  z5:=sizeOf5
  v5:=zeroValue5
  t9:=underlying9
  a9:=isAgg9
  z9:=sizeOf9
  v9:=zeroValue9
  t20:=underlying20
  a20:=isAgg20
  z20:=sizeOf20
  v20:=zeroValue20
  t21:=underlying21
  a21:=isAgg21
  z21:=sizeOf21
  v21:=zeroValue21
  t37:=underlying22
  a37:=isAgg22
  z37:=sizeOf22
  v37:=zeroValue22
  t46:=underlying134
  a46:=isAgg134
  z46:=sizeOf134
  v46:=zeroValue134
  t51:=underlying255
  a51:=isAgg255
  z51:=sizeOf255
  v51:=zeroValue255
  t53:=underlying258
  a53:=isAgg258
  z53:=sizeOf258
  v53:=zeroValue258
  t75:=underlying203
  a75:=isAgg203
  z75:=sizeOf203
  v75:=zeroValue203
  t76:=underlying204
  a76:=isAgg204
  z76:=sizeOf204
  v76:=zeroValue204
  t85:=underlying381
  a85:=isAgg381
  z85:=sizeOf381
  v85:=zeroValue381
  t127:=underlying261
  a127:=isAgg261
  z127:=sizeOf261
  v127:=zeroValue261
  t143:=underlying394
  a143:=isAgg394
  z143:=sizeOf394
  v143:=zeroValue394
  t145:=underlying396
  a145:=isAgg396
  z145:=sizeOf396
  v145:=zeroValue396
  t167:=underlying380
  a167:=isAgg380
  z167:=sizeOf380
  v167:=zeroValue380
  t168:=underlying383
  a168:=isAgg383
  z168:=sizeOf383
  v168:=zeroValue383
  t171:=underlying323
  a171:=isAgg323
  z171:=sizeOf323
  v171:=zeroValue323
  t173:=underlying326
  a173:=isAgg326
  z173:=sizeOf326
  v173:=zeroValue326
  t175:=underlying388
  a175:=isAgg388
  z175:=sizeOf388
  v175:=zeroValue388
  t210:=underlying391
  a210:=isAgg391
  z210:=sizeOf391
  v210:=zeroValue391
  t212:=underlying363
  a212:=isAgg363
  z212:=sizeOf363
  v212:=zeroValue363
  t213:=underlying364
  a213:=isAgg364
  z213:=sizeOf364
  t232:=underlying386
  a232:=isAgg386
  z232:=sizeOf386
  v232:=zeroValue386
  t233:=underlying387
  a233:=isAgg387
  z233:=sizeOf387
  v233:=zeroValue387
  g15:=by kernel_rfl
  g16:=by kernel_rfl
  g17:=by kernel_rfl
  g18:=by kernel_rfl
  g19:=by kernel_rfl }
open Go.RowKit in
theorem Tryz.strconv_Atoi (s : ByteArray) (n : Int) (hl : s.size ≤ 18) (h : Lib.atoi s.data.toList = some n) (w : World) :
    Calls Tryz.prog 265 #[.string s] w fun e w' => e = .returned (.tuple #[.int .i64 n, .nilIface]) ∧ ∃ t, w' = Lib.bytesWorld w 5 t:=Any.strconv_Atoi Tryz.lays172 s n hl h w
def Tryz.laysM171_ren : Go.Shelf.Ren:=⟨fun | 171 => 179 | 243 => 236 | 246 => 182 | 283 => 237 | 284 => 238 | 285 => 239 | 286 => 240 | 129 => 285 | 317 => 284 | 318 => 286 | 319 => 287 | 320 => 288 | 337 => 301 | 338 => 302 | n => n, fun | 3 => 3 | 9 => 9 | 2 => 2 | 4 => 4 | 171 => 323 | 0 => 0 | 53 => 258 | 37 => 22 | 5 => 5 | 173 => 326 | 212 => 363 | 51 => 255 | 20 => 20 | 213 => 364 | 46 => 134 | 232 => 386 | 233 => 387 | n => n, fun | 17 => 4 | 18 => 8 | 19 => 9 | n => n⟩
theorem Tryz.laysM171 : Go.Proofs.LaysM.n171 Tryz.prog Tryz.laysM171_ren:={
  mixed:=by kernel_rfl
  f129:=hT func285 (by kernel_rfl)
  f171:=hT func179 (by kernel_rfl)
  f243:=hT func236 (by kernel_rfl)
  f246:=hT func182 (by kernel_rfl)
  f283:=hT func237 (by kernel_rfl)
  f284:=hT func238 (by kernel_rfl)
  f285:=hT func239 (by kernel_rfl)
  f286:=hT func240 (by kernel_rfl)
  f317:=hT func284 (by kernel_rfl)
  f318:=hT func286 (by kernel_rfl)
  f319:=hT func287 (by kernel_rfl)
  f320:=hT func288 (by kernel_rfl)
  f337:=hT func301 (by kernel_rfl)
  f338:=hT func302 (by kernel_rfl)
  t0:=underlying0
  a0:=isAgg0
  z0:=sizeOf0
  v0:=zeroValue0
  t2:=underlying2
  a2:=isAgg2
  z2:=sizeOf2
  v2:=zeroValue2
  t3:=underlying3
  a3:=isAgg3
  z3:=sizeOf3
  v3:=zeroValue3
  t4:=underlying4
  a4:=isAgg4
  z4:=sizeOf4
  v4:=zeroValue4
  t5:=underlying5
  a5:=isAgg5
  z5:=sizeOf5
  v5:=zeroValue5
  t9:=underlying9
  a9:=isAgg9
  z9:=sizeOf9
  v9:=zeroValue9
  t20:=underlying20
  a20:=isAgg20
  z20:=sizeOf20
  v20:=zeroValue20
  t37:=underlying22
  a37:=isAgg22
  z37:=sizeOf22
  v37:=zeroValue22
  t46:=underlying134
  a46:=isAgg134
  z46:=sizeOf134
  v46:=zeroValue134
  t51:=underlying255
  a51:=isAgg255
  z51:=sizeOf255
  v51:=zeroValue255
  t53:=underlying258
  a53:=isAgg258
  z53:=sizeOf258
  v53:=zeroValue258
  t171:=underlying323
  a171:=isAgg323
  z171:=sizeOf323
  v171:=zeroValue323
  t173:=underlying326
  a173:=isAgg326
  z173:=sizeOf326
  v173:=zeroValue326
  t212:=underlying363
  a212:=isAgg363
  z212:=sizeOf363
  v212:=zeroValue363
  t213:=underlying364
  a213:=isAgg364
  z213:=sizeOf364
  t232:=underlying386
  a232:=isAgg386
  z232:=sizeOf386
  v232:=zeroValue386
  t233:=underlying387
  a233:=isAgg387
  z233:=sizeOf387
  v233:=zeroValue387
  g17:=by kernel_rfl
  g18:=by kernel_rfl
  g19:=by kernel_rfl
  i0:=by kernel_rfl
  i2:=by kernel_rfl
  i3:=by kernel_rfl
  i4:=by kernel_rfl
  i5:=by kernel_rfl
  i9:=by kernel_rfl
  i20:=by kernel_rfl
  i37:=by kernel_rfl
  i46:=by kernel_rfl
  i51:=by kernel_rfl
  i53:=by kernel_rfl
  i171:=by kernel_rfl
  i173:=by kernel_rfl
  i212:=by kernel_rfl
  i232:=by kernel_rfl
  i233:=by kernel_rfl
  m17:=by kernel_rfl
  m18:=by kernel_rfl
  m19:=by kernel_rfl }
open Go.RowKit Go.Sort Go.Lib in
theorem Tryz.strconv_Itoa (n : Int) (h0 : -9223372036854775808 ≤ n) (h1 : n ≤ 9223372036854775807) (w : World) (htab : Lib.TabIs Tryz.prog w "internal/strconv.uint64pow10" .u64 Lib.pow10Tab) :
    Calls Tryz.prog 179 #[.int .i64 n] w fun e w' => e = .returned (.string ⟨(Lib.itoa n).toArray⟩) ∧ ∃ k os, w' = grow (w.drewN k) os:=Any.strconv_Itoa Tryz.laysM171 n h0 h1 w htab
def Tryz.laysM173_ren : Go.Shelf.Ren:=⟨fun | 173 => 135 | 246 => 182 | 283 => 237 | 284 => 238 | 285 => 239 | 286 => 240 | 129 => 285 | 317 => 284 | 318 => 286 | 319 => 287 | 320 => 288 | 337 => 301 | 338 => 302 | n => n, fun | 2 => 2 | 3 => 3 | 9 => 9 | 4 => 4 | 171 => 323 | 0 => 0 | 53 => 258 | 37 => 22 | 5 => 5 | 173 => 326 | 212 => 363 | 51 => 255 | 20 => 20 | 213 => 364 | 46 => 134 | 232 => 386 | 233 => 387 | n => n, fun | 17 => 4 | 18 => 8 | 19 => 9 | n => n⟩
theorem Tryz.laysM173 : Go.Proofs.LaysM.n173 Tryz.prog Tryz.laysM173_ren:={
  mixed:=by kernel_rfl
  f129:=hT func285 (by kernel_rfl)
  f173:=hT func135 (by kernel_rfl)
  f246:=hT func182 (by kernel_rfl)
  f283:=hT func237 (by kernel_rfl)
  f284:=hT func238 (by kernel_rfl)
  f285:=hT func239 (by kernel_rfl)
  f286:=hT func240 (by kernel_rfl)
  f317:=hT func284 (by kernel_rfl)
  f318:=hT func286 (by kernel_rfl)
  f319:=hT func287 (by kernel_rfl)
  f320:=hT func288 (by kernel_rfl)
  f337:=hT func301 (by kernel_rfl)
  f338:=hT func302 (by kernel_rfl)
  t0:=underlying0
  a0:=isAgg0
  z0:=sizeOf0
  v0:=zeroValue0
  t2:=underlying2
  a2:=isAgg2
  z2:=sizeOf2
  v2:=zeroValue2
  t3:=underlying3
  a3:=isAgg3
  z3:=sizeOf3
  v3:=zeroValue3
  t4:=underlying4
  a4:=isAgg4
  z4:=sizeOf4
  v4:=zeroValue4
  t5:=underlying5
  a5:=isAgg5
  z5:=sizeOf5
  v5:=zeroValue5
  t9:=underlying9
  a9:=isAgg9
  z9:=sizeOf9
  v9:=zeroValue9
  t20:=underlying20
  a20:=isAgg20
  z20:=sizeOf20
  v20:=zeroValue20
  t37:=underlying22
  a37:=isAgg22
  z37:=sizeOf22
  v37:=zeroValue22
  t46:=underlying134
  a46:=isAgg134
  z46:=sizeOf134
  v46:=zeroValue134
  t51:=underlying255
  a51:=isAgg255
  z51:=sizeOf255
  v51:=zeroValue255
  t53:=underlying258
  a53:=isAgg258
  z53:=sizeOf258
  v53:=zeroValue258
  t171:=underlying323
  a171:=isAgg323
  z171:=sizeOf323
  v171:=zeroValue323
  t173:=underlying326
  a173:=isAgg326
  z173:=sizeOf326
  v173:=zeroValue326
  t212:=underlying363
  a212:=isAgg363
  z212:=sizeOf363
  v212:=zeroValue363
  t213:=underlying364
  a213:=isAgg364
  z213:=sizeOf364
  t232:=underlying386
  a232:=isAgg386
  z232:=sizeOf386
  v232:=zeroValue386
  t233:=underlying387
  a233:=isAgg387
  z233:=sizeOf387
  v233:=zeroValue387
  g17:=by kernel_rfl
  g18:=by kernel_rfl
  g19:=by kernel_rfl
  i0:=by kernel_rfl
  i2:=by kernel_rfl
  i3:=by kernel_rfl
  i4:=by kernel_rfl
  i5:=by kernel_rfl
  i9:=by kernel_rfl
  i20:=by kernel_rfl
  i37:=by kernel_rfl
  i46:=by kernel_rfl
  i51:=by kernel_rfl
  i53:=by kernel_rfl
  i171:=by kernel_rfl
  i173:=by kernel_rfl
  i212:=by kernel_rfl
  i232:=by kernel_rfl
  i233:=by kernel_rfl
  m17:=by kernel_rfl
  m18:=by kernel_rfl
  m19:=by kernel_rfl }
open Go.RowKit Go.Sort Go.Lib in
theorem Tryz.strconv_FormatInt_10 (n : Int) (h0 : -9223372036854775808 ≤ n) (h1 : n ≤ 9223372036854775807) (w : World) (htab : Lib.TabIs Tryz.prog w "internal/strconv.uint64pow10" .u64 Lib.pow10Tab) :
    Calls Tryz.prog 135 #[.int .i64 n, .int .i64 10] w fun e w' => e = .returned (.string ⟨(Lib.itoa n).toArray⟩) ∧ ∃ k os, w' = grow (w.drewN k) os:=Any.strconv_FormatInt_10 Tryz.laysM173 n h0 h1 w htab
def Tryz.lays144_ren : Go.Shelf.Ren:=⟨fun | 144 => 260 | 143 => 197 | 219 => 161 | 217 => 217 | 225 => 218 | 224 => 192 | 267 => 219 | 266 => 263 | 314 => 264 | n => n, fun | 9 => 9 | 4 => 4 | 3 => 3 | 5 => 5 | 46 => 134 | 146 => 256 | 51 => 255 | n => n, fun | 1 => 1 | n => n⟩
theorem Tryz.lays144 : Go.Proofs.Lays.n144 Tryz.prog Tryz.lays144_ren:={
  mixed:=by kernel_rfl
  f143:=hT func197 (by kernel_rfl)
  f144:=hT func260 (by kernel_rfl)
  f217:=hT func217 (by kernel_rfl)
  f219:=hT func161 (by kernel_rfl)
  f224:=hT func192 (by kernel_rfl)
  f225:=hT func218 (by kernel_rfl)
  f266:=hT func263 (by kernel_rfl)
  f267:=hT func219 (by kernel_rfl)
  f314:=hT func264 (by kernel_rfl)
  t3:=underlying3
  a3:=isAgg3
  z3:=sizeOf3
  v3:=zeroValue3
  t4:=underlying4
  a4:=isAgg4
  z4:=sizeOf4
  v4:=zeroValue4
  t5:=underlying5
  a5:=isAgg5
  z5:=sizeOf5
  v5:=zeroValue5
  t9:=underlying9
  a9:=isAgg9
  z9:=sizeOf9
  v9:=zeroValue9
  t46:=underlying134
  a46:=isAgg134
  z46:=sizeOf134
  v46:=zeroValue134
  t51:=underlying255
  a51:=isAgg255
  z51:=sizeOf255
  v51:=zeroValue255
  t146:=underlying256
  a146:=isAgg256
  z146:=sizeOf256
  v146:=zeroValue256
  g1:=by kernel_rfl }
open Go.RowKit Go.Lib in
theorem Tryz.strings_Contains_one (s : ByteArray) (c : UInt8) (w : World) :
    Calls Tryz.prog 260 #[.string s, .string ⟨#[c]⟩] w fun e w' => e = .returned (.bool (decide (0 ≤ Lib.indexByte s.data.toList c))) ∧ w' = w:=Any.strings_Contains_one Tryz.lays144 s c w
def Tryz.lays145_ren : Go.Shelf.Ren:=⟨fun | 145 => 73 | 220 => 109 | 219 => 161 | 217 => 217 | 225 => 218 | 224 => 192 | 267 => 219 | 266 => 263 | 314 => 264 | n => n, fun | 9 => 9 | 4 => 4 | 59 => 147 | 3 => 3 | 5 => 5 | 46 => 134 | 146 => 256 | 51 => 255 | n => n, fun | 1 => 1 | n => n⟩
theorem Tryz.lays145 : Go.Proofs.Lays.n145 Tryz.prog Tryz.lays145_ren:={
  mixed:=by kernel_rfl
  f145:=hT func73 (by kernel_rfl)
  f217:=hT func217 (by kernel_rfl)
  f219:=hT func161 (by kernel_rfl)
  f220:=hT func109 (by kernel_rfl)
  f224:=hT func192 (by kernel_rfl)
  f225:=hT func218 (by kernel_rfl)
  f266:=hT func263 (by kernel_rfl)
  f267:=hT func219 (by kernel_rfl)
  f314:=hT func264 (by kernel_rfl)
  t3:=underlying3
  a3:=isAgg3
  z3:=sizeOf3
  v3:=zeroValue3
  t4:=underlying4
  a4:=isAgg4
  z4:=sizeOf4
  v4:=zeroValue4
  t5:=underlying5
  a5:=isAgg5
  z5:=sizeOf5
  v5:=zeroValue5
  t9:=underlying9
  a9:=isAgg9
  z9:=sizeOf9
  v9:=zeroValue9
  t46:=underlying134
  a46:=isAgg134
  z46:=sizeOf134
  v46:=zeroValue134
  t51:=underlying255
  a51:=isAgg255
  z51:=sizeOf255
  v51:=zeroValue255
  t59:=underlying147
  a59:=isAgg147
  z59:=sizeOf147
  v59:=zeroValue147
  t146:=underlying256
  a146:=isAgg256
  z146:=sizeOf256
  v146:=zeroValue256
  g1:=by kernel_rfl }
open Go.RowKit Go.Lib in
theorem Tryz.strings_Cut (s sep : ByteArray) (m : Int) (w : World) (hs : s.size < 4294967281) (hm : w.cell? ⟨1, 0, none⟩ = some (.int .i64 m)) :
    Calls Tryz.prog 73 #[.string s, .string sep] w fun e w' => e = .returned (.tuple #[.string ⟨(Lib.cut s.data.toList sep.data.toList).1.toArray⟩, .string ⟨(Lib.cut s.data.toList sep.data.toList).2.1.toArray⟩, .bool (Lib.cut s.data.toList sep.data.toList).2.2]) ∧ ∃ n, w' = w.drewN n:=Any.strings_Cut Tryz.lays145 s sep m w hs hm
def Tryz.lays138_ren : Go.Shelf.Ren:=⟨fun | 138 => 167 | 195 => 221 | 218 => 222 | 143 => 197 | 219 => 161 | 217 => 217 | 225 => 218 | 224 => 192 | 267 => 219 | 266 => 263 | 314 => 264 | n => n, fun | 9 => 9 | 3 => 3 | 4 => 4 | 5 => 5 | 0 => 0 | 46 => 134 | 146 => 256 | 51 => 255 | n => n, fun | 1 => 1 | n => n⟩
theorem Tryz.lays138 : Go.Proofs.Lays.n138 Tryz.prog Tryz.lays138_ren:={
  mixed:=by kernel_rfl
  f138:=hT func167 (by kernel_rfl)
  f143:=hT func197 (by kernel_rfl)
  f195:=hT func221 (by kernel_rfl)
  f217:=hT func217 (by kernel_rfl)
  f218:=hT func222 (by kernel_rfl)
  f219:=hT func161 (by kernel_rfl)
  f224:=hT func192 (by kernel_rfl)
  f225:=hT func218 (by kernel_rfl)
  f266:=hT func263 (by kernel_rfl)
  f267:=hT func219 (by kernel_rfl)
  f314:=hT func264 (by kernel_rfl)
  t0:=underlying0
  a0:=isAgg0
  z0:=sizeOf0
  v0:=zeroValue0
  t3:=underlying3
  a3:=isAgg3
  z3:=sizeOf3
  v3:=zeroValue3
  t4:=underlying4
  a4:=isAgg4
  z4:=sizeOf4
  v4:=zeroValue4
  t5:=underlying5
  a5:=isAgg5
  z5:=sizeOf5
  v5:=zeroValue5
  t9:=underlying9
  a9:=isAgg9
  z9:=sizeOf9
  v9:=zeroValue9
  t46:=underlying134
  a46:=isAgg134
  z46:=sizeOf134
  v46:=zeroValue134
  t51:=underlying255
  a51:=isAgg255
  z51:=sizeOf255
  v51:=zeroValue255
  t146:=underlying256
  a146:=isAgg256
  z146:=sizeOf256
  v146:=zeroValue256
  g1:=by kernel_rfl }
open Go.RowKit Go.Lib in
theorem Tryz.strings_Count_one (s : ByteArray) (c : UInt8) (w : World) :
    Calls Tryz.prog 167 #[.string s, .string ⟨#[c]⟩] w fun e w' => e = .returned (.int .i64 (Lib.countByte s.data.toList c)) ∧ w' = w:=Any.strings_Count_one Tryz.lays138 s c w
def Tryz.lays99_ren : Go.Shelf.Ren:=⟨fun | 99 => 113 | 206 => 160 | n => n, fun | 9 => 9 | 4 => 4 | 3 => 3 | n => n, fun | n => n⟩
theorem Tryz.lays99 : Go.Proofs.Lays.n99 Tryz.prog Tryz.lays99_ren:={
  mixed:=by kernel_rfl
  f99:=hT func113 (by kernel_rfl)
  f206:=hT func160 (by kernel_rfl)
  t3:=underlying3
  a3:=isAgg3
  z3:=sizeOf3
  v3:=zeroValue3
  t4:=underlying4
  a4:=isAgg4
  z4:=sizeOf4
  v4:=zeroValue4
  t9:=underlying9
  a9:=isAgg9
  z9:=sizeOf9
  v9:=zeroValue9 }
open Go.RowKit Go.Lib in
theorem Tryz.strings_HasPrefix (s p : ByteArray) (w : World) :
    Calls Tryz.prog 113 #[.string s, .string p] w fun e w' => e = .returned (.bool (Lib.hasPrefix s.data.toList p.data.toList)) ∧ w' = w:=Any.strings_HasPrefix Tryz.lays99 s p w
def Tryz.lays100_ren : Go.Shelf.Ren:=⟨fun | 100 => 176 | 207 => 198 | n => n, fun | 9 => 9 | 4 => 4 | 3 => 3 | n => n, fun | n => n⟩
theorem Tryz.lays100 : Go.Proofs.Lays.n100 Tryz.prog Tryz.lays100_ren:={
  mixed:=by kernel_rfl
  f100:=hT func176 (by kernel_rfl)
  f207:=hT func198 (by kernel_rfl)
  t3:=underlying3
  a3:=isAgg3
  z3:=sizeOf3
  v3:=zeroValue3
  t4:=underlying4
  a4:=isAgg4
  z4:=sizeOf4
  v4:=zeroValue4
  t9:=underlying9
  a9:=isAgg9
  z9:=sizeOf9
  v9:=zeroValue9 }
open Go.RowKit Go.Lib in
theorem Tryz.strings_HasSuffix (s p : ByteArray) (w : World) (hs : s.size ≤ 9223372036854775807) :
    Calls Tryz.prog 176 #[.string s, .string p] w fun e w' => e = .returned (.bool (Lib.hasSuffix s.data.toList p.data.toList)) ∧ w' = w:=Any.strings_HasSuffix Tryz.lays100 s p w hs
def Tryz.lays101_ren : Go.Shelf.Ren:=⟨fun | 101 => 72 | 208 => 108 | 206 => 160 | n => n, fun | 9 => 9 | 4 => 4 | 3 => 3 | n => n, fun | n => n⟩
theorem Tryz.lays101 : Go.Proofs.Lays.n101 Tryz.prog Tryz.lays101_ren:={
  mixed:=by kernel_rfl
  f101:=hT func72 (by kernel_rfl)
  f206:=hT func160 (by kernel_rfl)
  f208:=hT func108 (by kernel_rfl)
  t3:=underlying3
  a3:=isAgg3
  z3:=sizeOf3
  v3:=zeroValue3
  t4:=underlying4
  a4:=isAgg4
  z4:=sizeOf4
  v4:=zeroValue4
  t9:=underlying9
  a9:=isAgg9
  z9:=sizeOf9
  v9:=zeroValue9 }
open Go.RowKit Go.Lib in
theorem Tryz.strings_TrimPrefix (s p : ByteArray) (w : World) :
    Calls Tryz.prog 72 #[.string s, .string p] w fun e w' => e = .returned (.string ⟨(Lib.trimPrefix s.data.toList p.data.toList).toArray⟩) ∧ w' = w:=Any.strings_TrimPrefix Tryz.lays101 s p w
def Tryz.lays102_ren : Go.Shelf.Ren:=⟨fun | 102 => 102 | 209 => 151 | 207 => 198 | n => n, fun | 9 => 9 | 4 => 4 | 3 => 3 | n => n, fun | n => n⟩
theorem Tryz.lays102 : Go.Proofs.Lays.n102 Tryz.prog Tryz.lays102_ren:={
  mixed:=by kernel_rfl
  f102:=hT func102 (by kernel_rfl)
  f207:=hT func198 (by kernel_rfl)
  f209:=hT func151 (by kernel_rfl)
  t3:=underlying3
  a3:=isAgg3
  z3:=sizeOf3
  v3:=zeroValue3
  t4:=underlying4
  a4:=isAgg4
  z4:=sizeOf4
  v4:=zeroValue4
  t9:=underlying9
  a9:=isAgg9
  z9:=sizeOf9
  v9:=zeroValue9 }
open Go.RowKit Go.Lib in
theorem Tryz.strings_TrimSuffix (s p : ByteArray) (w : World) (hs : s.size ≤ 9223372036854775807) :
    Calls Tryz.prog 102 #[.string s, .string p] w fun e w' => e = .returned (.string ⟨(Lib.trimSuffix s.data.toList p.data.toList).toArray⟩) ∧ w' = w:=Any.strings_TrimSuffix Tryz.lays102 s p w hs
def Tryz.lays157_ren : Go.Shelf.Ren:=⟨fun | 157 => 100 | 229 => 148 | 199 => 149 | 261 => 195 | 311 => 251 | 312 => 252 | n => n, fun | 9 => 9 | 31 => 51 | 3 => 3 | 5 => 5 | 4 => 4 | 119 => 241 | 0 => 0 | 40 => 243 | 152 => 286 | 21 => 21 | 154 => 288 | 51 => 255 | 141 => 290 | 196 => 341 | 193 => 338 | 198 => 344 | 49 => 342 | 194 => 339 | 201 => 347 | 226 => 369 | 46 => 134 | 227 => 370 | n => n, fun | 0 => 0 | 6 => 2 | n => n⟩
theorem Tryz.lays157 : Go.Proofs.Lays.n157 Tryz.prog Tryz.lays157_ren:={
  mixed:=by kernel_rfl
  f157:=hT func100 (by kernel_rfl)
  f199:=hT func149 (by kernel_rfl)
  f229:=hT func148 (by kernel_rfl)
  f261:=hT func195 (by kernel_rfl)
  f311:=hT func251 (by kernel_rfl)
  f312:=hT func252 (by kernel_rfl)
  t0:=underlying0
  a0:=isAgg0
  z0:=sizeOf0
  v0:=zeroValue0
  t3:=underlying3
  a3:=isAgg3
  z3:=sizeOf3
  v3:=zeroValue3
  t4:=underlying4
  a4:=isAgg4
  z4:=sizeOf4
  v4:=zeroValue4
  t5:=underlying5
  a5:=isAgg5
  z5:=sizeOf5
  v5:=zeroValue5
  t9:=underlying9
  a9:=isAgg9
  z9:=sizeOf9
  v9:=zeroValue9
  t21:=underlying21
  a21:=isAgg21
  z21:=sizeOf21
  v21:=zeroValue21
  t31:=underlying51
  a31:=isAgg51
  z31:=sizeOf51
  v31:=zeroValue51
  t40:=underlying243
  a40:=isAgg243
  z40:=sizeOf243
  v40:=zeroValue243
  t46:=underlying134
  a46:=isAgg134
  z46:=sizeOf134
  v46:=zeroValue134
  t49:=underlying342
  a49:=isAgg342
  z49:=sizeOf342
  v49:=zeroValue342
  t51:=underlying255
  a51:=isAgg255
  z51:=sizeOf255
  v51:=zeroValue255
  t119:=underlying241
  a119:=isAgg241
  z119:=sizeOf241
  t141:=underlying290
  a141:=isAgg290
  z141:=sizeOf290
  v141:=zeroValue290
  t152:=underlying286
  a152:=isAgg286
  z152:=sizeOf286
  v152:=zeroValue286
  t154:=underlying288
  a154:=isAgg288
  z154:=sizeOf288
  v154:=zeroValue288
  t193:=underlying338
  a193:=isAgg338
  z193:=sizeOf338
  v193:=zeroValue338
  t194:=underlying339
  a194:=isAgg339
  z194:=sizeOf339
  v194:=zeroValue339
  t196:=underlying341
  a196:=isAgg341
  z196:=sizeOf341
  v196:=zeroValue341
  t198:=underlying344
  a198:=isAgg344
  z198:=sizeOf344
  v198:=zeroValue344
  t201:=underlying347
  a201:=isAgg347
  z201:=sizeOf347
  v201:=zeroValue347
  t226:=underlying369
  a226:=isAgg369
  z226:=sizeOf369
  v226:=zeroValue369
  t227:=underlying370
  a227:=isAgg370
  z227:=sizeOf370
  v227:=zeroValue370
  g0:=by kernel_rfl
  g6:=by kernel_rfl }
open Go.RowKit Go.Lib in
theorem Tryz.strings_Fields (s : ByteArray) (w : World) (hs : s.size < 4294967281) (hascii : ∀ (j : Nat) b, s.data.toList[j]? = some b → b.toNat < 128) (htab : Lib.TabIs Tryz.prog w "strings.asciiSpace" .u8 Lib.asciiSpaceTab) :
    Calls Tryz.prog 100 #[.string s] w fun e w' =>
      e = .returned (.slice (some ⟨w.heap.size, 0, none⟩) (Lib.fields s.data.toList).length (Lib.fields s.data.toList).length) ∧ w' = w.alloc (.cells ((Lib.fields s.data.toList).map fun l => Value.string ⟨l.toArray⟩).toArray 9):=Any.strings_Fields Tryz.lays157 (by kernel_rfl) (by kernel_rfl) s w hs hascii htab
def Tryz.lays151_ren : Go.Shelf.Ren:=⟨fun | 151 => 231 | 152 => 273 | 137 => 267 | 119 => 299 | 224 => 192 | 225 => 218 | 217 => 217 | 266 => 263 | n => n, fun | 9 => 9 | 21 => 21 | 4 => 4 | 3 => 3 | 5 => 5 | 0 => 0 | 46 => 134 | n => n, fun | n => n⟩
theorem Tryz.lays151 : Go.Proofs.Lays.n151 Tryz.prog Tryz.lays151_ren:={
  mixed:=by kernel_rfl
  f119:=hT func299 (by kernel_rfl)
  f137:=hT func267 (by kernel_rfl)
  f151:=hT func231 (by kernel_rfl)
  f152:=hT func273 (by kernel_rfl)
  f217:=hT func217 (by kernel_rfl)
  f224:=hT func192 (by kernel_rfl)
  f225:=hT func218 (by kernel_rfl)
  f266:=hT func263 (by kernel_rfl)
  t0:=underlying0
  a0:=isAgg0
  z0:=sizeOf0
  v0:=zeroValue0
  t3:=underlying3
  a3:=isAgg3
  z3:=sizeOf3
  v3:=zeroValue3
  t4:=underlying4
  a4:=isAgg4
  z4:=sizeOf4
  v4:=zeroValue4
  t5:=underlying5
  a5:=isAgg5
  z5:=sizeOf5
  v5:=zeroValue5
  t9:=underlying9
  a9:=isAgg9
  z9:=sizeOf9
  v9:=zeroValue9
  t21:=underlying21
  a21:=isAgg21
  z21:=sizeOf21
  v21:=zeroValue21
  t46:=underlying134
  a46:=isAgg134
  z46:=sizeOf134
  v46:=zeroValue134 }
open Go.RowKit Go.Lib in
theorem Tryz.strings_ContainsRune_ascii (s : ByteArray) (r : Int) (w : World) (h0 : 0 ≤ r) (h1 : r < 128) :
    Calls Tryz.prog 231 #[.string s, .int .i32 r] w fun e w' => e = .returned (.bool (decide (0 ≤ Lib.indexByte s.data.toList r.toNat.toUInt8))) ∧ w' = w:=Any.strings_ContainsRune_ascii Tryz.lays151 s r w h0 h1
def Tryz.lays150_ren : Go.Shelf.Ren:=⟨fun | 150 => 226 | 153 => 268 | 152 => 273 | 226 => 297 | 227 => 201 | 228 => 254 | 137 => 267 | 119 => 299 | 224 => 192 | 225 => 218 | 217 => 217 | 266 => 263 | n => n, fun | 9 => 9 | 4 => 4 | 3 => 3 | 5 => 5 | 21 => 21 | 117 => 296 | 116 => 295 | 0 => 0 | 46 => 134 | 124 => 299 | n => n, fun | n => n⟩
theorem Tryz.lays150 : Go.Proofs.Lays.n150 Tryz.prog Tryz.lays150_ren:={
  mixed:=by kernel_rfl
  f119:=hT func299 (by kernel_rfl)
  f137:=hT func267 (by kernel_rfl)
  f150:=hT func226 (by kernel_rfl)
  f152:=hT func273 (by kernel_rfl)
  f153:=hT func268 (by kernel_rfl)
  f217:=hT func217 (by kernel_rfl)
  f224:=hT func192 (by kernel_rfl)
  f225:=hT func218 (by kernel_rfl)
  f226:=hT func297 (by kernel_rfl)
  f227:=hT func201 (by kernel_rfl)
  f228:=hT func254 (by kernel_rfl)
  f266:=hT func263 (by kernel_rfl)
  t0:=underlying0
  a0:=isAgg0
  z0:=sizeOf0
  v0:=zeroValue0
  t3:=underlying3
  a3:=isAgg3
  z3:=sizeOf3
  v3:=zeroValue3
  t4:=underlying4
  a4:=isAgg4
  z4:=sizeOf4
  v4:=zeroValue4
  t5:=underlying5
  a5:=isAgg5
  z5:=sizeOf5
  v5:=zeroValue5
  t9:=underlying9
  a9:=isAgg9
  z9:=sizeOf9
  v9:=zeroValue9
  t21:=underlying21
  a21:=isAgg21
  z21:=sizeOf21
  v21:=zeroValue21
  t46:=underlying134
  a46:=isAgg134
  z46:=sizeOf134
  v46:=zeroValue134
  t116:=underlying295
  a116:=isAgg295
  z116:=sizeOf295
  t117:=underlying296
  a117:=isAgg296
  z117:=sizeOf296
  v117:=zeroValue296
  t124:=underlying299
  a124:=isAgg299
  z124:=sizeOf299
  v124:=zeroValue299 }
open Go.RowKit Go.Lib in
theorem Tryz.strings_ContainsAny_laid (s chars : ByteArray) (w : World) (hs : s.size < 4294967281) (hcs : chars.size < 4294967281) (has : ∀ (j : Nat) b, s.data.toList[j]? = some b → b.toNat < 128) (hac : ∀ (j : Nat) b, chars.data.toList[j]? = some b → b.toNat < 128) :
    Calls Tryz.prog 226 #[.string s, .string chars] w fun e w' => e = .returned (.bool (Lib.containsAny s.data.toList chars.data.toList)) ∧ Below w.heap.size w w':=Any.strings_ContainsAny_laid Tryz.lays150 (by kernel_rfl) s chars w hs hcs has hac
def Tryz.lays212_ren : Go.Shelf.Ren:=⟨fun | 212 => 112 | 263 => 162 | 264 => 163 | n => n, fun | 46 => 134 | 51 => 255 | 146 => 256 | 53 => 258 | 148 => 259 | n => n, fun | n => n⟩
theorem Tryz.lays212 : Go.Proofs.Lays.n212 Tryz.prog Tryz.lays212_ren:={
  mixed:=by kernel_rfl
  f212:=hT func112 (by kernel_rfl)
  f263:=hT func162 (by kernel_rfl)
  f264:=hT func163 (by kernel_rfl)
  t46:=underlying134
  a46:=isAgg134
  z46:=sizeOf134
  v46:=zeroValue134
  t51:=underlying255
  a51:=isAgg255
  z51:=sizeOf255
  v51:=zeroValue255
  t53:=underlying258
  a53:=isAgg258
  z53:=sizeOf258
  v53:=zeroValue258
  t146:=underlying256
  a146:=isAgg256
  z146:=sizeOf256
  v146:=zeroValue256
  t148:=underlying259
  a148:=isAgg259
  z148:=sizeOf259
  v148:=zeroValue259 }
open Go.RowKit Go.Lib in
theorem Tryz.bits_Mul (x y : Nat) (hx : x < 18446744073709551616) (hy : y < 18446744073709551616) (w : World) :
    Calls Tryz.prog 112 #[.int .u64 x, .int .u64 y] w fun e w' => e = .returned (.tuple #[.int .u64 ((x * y / 18446744073709551616 : Nat) : Int), .int .u64 ((x * y % 18446744073709551616 : Nat) : Int)]) ∧ w' = w:=Any.bits_Mul Tryz.lays212 x y hx hy w
def Tryz.lays105_ren : Go.Shelf.Ren:=⟨fun | 105 => 75 | 212 => 112 | 99 => 113 | 165 => 114 | 166 => 115 | 170 => 116 | 169 => 117 | 263 => 162 | 264 => 163 | 206 => 160 | 240 => 164 | 241 => 165 | 276 => 220 | 277 => 145 | n => n, fun | 9 => 9 | 3 => 3 | 4 => 4 | 20 => 20 | 0 => 0 | 46 => 134 | 109 => 195 | 5 => 5 | 72 => 200 | 76 => 204 | 51 => 255 | 146 => 256 | 53 => 258 | 148 => 259 | 70 => 198 | 37 => 22 | 75 => 203 | 127 => 261 | 164 => 307 | 80 => 100 | n => n, fun | n => n⟩
theorem Tryz.lays105 : Go.Proofs.Lays.n105 Tryz.prog Tryz.lays105_ren:={
  mixed:=by kernel_rfl
  f99:=hT func113 (by kernel_rfl)
  f105:=hT func75 (by kernel_rfl)
  f165:=hT func114 (by kernel_rfl)
  f166:=hT func115 (by kernel_rfl)
  f169:=hT func117 (by kernel_rfl)
  f170:=hT func116 (by kernel_rfl)
  f206:=hT func160 (by kernel_rfl)
  f212:=hT func112 (by kernel_rfl)
  f240:=hT func164 (by kernel_rfl)
  f241:=hT func165 (by kernel_rfl)
  f263:=hT func162 (by kernel_rfl)
  f264:=hT func163 (by kernel_rfl)
  f276:=hT func220 (by kernel_rfl)
  f277:=hT func145 (by kernel_rfl)
  t0:=underlying0
  a0:=isAgg0
  z0:=sizeOf0
  v0:=zeroValue0
  t3:=underlying3
  a3:=isAgg3
  z3:=sizeOf3
  v3:=zeroValue3
  t4:=underlying4
  a4:=isAgg4
  z4:=sizeOf4
  v4:=zeroValue4
  t5:=underlying5
  a5:=isAgg5
  z5:=sizeOf5
  v5:=zeroValue5
  t9:=underlying9
  a9:=isAgg9
  z9:=sizeOf9
  v9:=zeroValue9
  t20:=underlying20
  a20:=isAgg20
  z20:=sizeOf20
  v20:=zeroValue20
  t37:=underlying22
  a37:=isAgg22
  z37:=sizeOf22
  v37:=zeroValue22
  t46:=underlying134
  a46:=isAgg134
  z46:=sizeOf134
  v46:=zeroValue134
  t51:=underlying255
  a51:=isAgg255
  z51:=sizeOf255
  v51:=zeroValue255
  t53:=underlying258
  a53:=isAgg258
  z53:=sizeOf258
  v53:=zeroValue258
  t70:=underlying198
  a70:=isAgg198
  z70:=sizeOf198
  v70:=zeroValue198
  t72:=underlying200
  a72:=isAgg200
  z72:=sizeOf200
  v72:=zeroValue200
  t75:=underlying203
  a75:=isAgg203
  z75:=sizeOf203
  v75:=zeroValue203
  t76:=underlying204
  a76:=isAgg204
  z76:=sizeOf204
  v76:=zeroValue204
  t109:=underlying195
  a109:=isAgg195
  z109:=sizeOf195
  v109:=zeroValue195
  t127:=underlying261
  a127:=isAgg261
  z127:=sizeOf261
  v127:=zeroValue261
  t146:=underlying256
  a146:=isAgg256
  z146:=sizeOf256
  v146:=zeroValue256
  t148:=underlying259
  a148:=isAgg259
  z148:=sizeOf259
  v148:=zeroValue259
  t164:=underlying307
  a164:=isAgg307
  z164:=sizeOf307
  v164:=zeroValue307 }
theorem Tryz.Builder_Extra_105 : Builder.Extra Tryz.prog Tryz.lays105_ren:={
  sizeBuilder:=by kernel_rfl
  liesBuilder:=by kernel_rfl
  t5:=underlying5
  a5:=isAgg5
  z5:=sizeOf5
  v5:=zeroValue5
  infoByte:=by kernel_rfl
  cellsByte:=by kernel_rfl
  sizeByte:=by kernel_rfl
  neB5:=by decide }
open Go.RowKit Go.Lib in
theorem Tryz.strings_Repeat (s : ByteArray) (c : Nat) (w : World) (hc : c ≤ 9223372036854775807) (hlen : s.size * c ≤ 140737488355328) :
    Calls Tryz.prog 75 #[.string s, .int .i64 c] w fun e w' => e = .returned (.string ⟨(Lib.repeatL s.data.toList c).toArray⟩) ∧ Below w.heap.size w w':=Any.strings_Repeat Tryz.lays105 Tryz.Builder_Extra_105 s c w hc hlen
def Tryz.lays185_ren : Go.Shelf.Ren:=⟨fun | 185 => 143 | 187 => 92 | 115 => 190 | 253 => 191 | 224 => 192 | 254 => 193 | 255 => 144 | 291 => 250 | n => n, fun | 37 => 22 | 3 => 3 | 4 => 4 | 0 => 0 | 5 => 5 | 46 => 134 | 9 => 9 | 146 => 256 | 51 => 255 | n => n, fun | 1 => 1 | n => n⟩
theorem Tryz.lays185 : Go.Proofs.Lays.n185 Tryz.prog Tryz.lays185_ren:={
  mixed:=by kernel_rfl
  f115:=hT func190 (by kernel_rfl)
  f185:=hT func143 (by kernel_rfl)
  f187:=hT func92 (by kernel_rfl)
  f224:=hT func192 (by kernel_rfl)
  f253:=hT func191 (by kernel_rfl)
  f254:=hT func193 (by kernel_rfl)
  f255:=hT func144 (by kernel_rfl)
  f291:=hT func250 (by kernel_rfl)
  t0:=underlying0
  a0:=isAgg0
  z0:=sizeOf0
  v0:=zeroValue0
  t3:=underlying3
  a3:=isAgg3
  z3:=sizeOf3
  v3:=zeroValue3
  t4:=underlying4
  a4:=isAgg4
  z4:=sizeOf4
  v4:=zeroValue4
  t5:=underlying5
  a5:=isAgg5
  z5:=sizeOf5
  v5:=zeroValue5
  t9:=underlying9
  a9:=isAgg9
  z9:=sizeOf9
  v9:=zeroValue9
  t37:=underlying22
  a37:=isAgg22
  z37:=sizeOf22
  v37:=zeroValue22
  t46:=underlying134
  a46:=isAgg134
  z46:=sizeOf134
  v46:=zeroValue134
  t51:=underlying255
  a51:=isAgg255
  z51:=sizeOf255
  v51:=zeroValue255
  t146:=underlying256
  a146:=isAgg256
  z146:=sizeOf256
  v146:=zeroValue256
  g1:=by kernel_rfl }
open Go.RowKit Go.Lib in
theorem Tryz.bytes_Index_one (b o n c b2 o2 d : Nat) (xs : List Int) (cv : Int) (w : World) (hx : xs.length = n) (hc : ∀ i, i < n → w.cell? ⟨b, o + i, none⟩ = some (.int .u8 (xs.getD i 0))) (hc2 : w.cell? ⟨b2, o2, none⟩ = some (.int .u8 cv)) :
    Calls Tryz.prog 143 #[.slice (some ⟨b, o, none⟩) n c, .slice (some ⟨b2, o2, none⟩) 1 d] w fun e w' => e = .returned (.int .i64 (Lib.indexByte (Lib.bytesOf xs) cv.toNat.toUInt8)) ∧ w' = w:=Any.bytes_Index_one Tryz.lays185 b o n c b2 o2 d xs cv w hx hc hc2
open Go.RowKit Go.Lib in
theorem Tryz.bytes_Index_none (p q : Option Addr) (n c d : Nat) (w : World) :
    Calls Tryz.prog 143 #[.slice p n c, .slice q 0 d] w fun e w' => e = .returned (.int .i64 0) ∧ w' = w:=Any.bytes_Index_none Tryz.lays185 p q n c d w
open Go.RowKit Go.Lib in
theorem Tryz.bytes_Index_longer (p q : Option Addr) (n c m d : Nat) (w : World) (h2 : 2 ≤ m) (hnm : n < m) (hm : m ≤ 9223372036854775807) :
    Calls Tryz.prog 143 #[.slice p n c, .slice q m d] w fun e w' => e = .returned (.int .i64 (-1)) ∧ w' = w:=Any.bytes_Index_longer Tryz.lays185 p q n c m d w h2 hnm hm
open Go.RowKit Go.Lib in
theorem Tryz.bytes_Index_same (b o c b2 o2 d n : Nat) (xs ys : List Int) (w : World) (h2 : 2 ≤ n) (hm : n ≤ 9223372036854775807) (hx : xs.length = n) (hy : ys.length = n) (hc : ∀ i, i < n → w.cell? ⟨b, o + i, none⟩ = some (.int .u8 (xs.getD i 0))) (hc2 : ∀ i, i < n → w.cell? ⟨b2, o2 + i, none⟩ = some (.int .u8 (ys.getD i 0))) :
    Calls Tryz.prog 143 #[.slice (some ⟨b, o, none⟩) n c, .slice (some ⟨b2, o2, none⟩) n d] w fun e w' => e = .returned (.int .i64 (if Lib.bytesOf ys == Lib.bytesOf xs then 0 else -1)) ∧ w' = w:=Any.bytes_Index_same Tryz.lays185 b o c b2 o2 d n xs ys w h2 hm hx hy hc hc2
def Tryz.lays187_ren : Go.Shelf.Ren:=⟨fun | 187 => 92 | 255 => 144 | n => n, fun | 37 => 22 | 5 => 5 | 3 => 3 | n => n, fun | n => n⟩
theorem Tryz.lays187 : Go.Proofs.Lays.n187 Tryz.prog Tryz.lays187_ren:={
  mixed:=by kernel_rfl
  f187:=hT func92 (by kernel_rfl)
  f255:=hT func144 (by kernel_rfl)
  t3:=underlying3
  a3:=isAgg3
  z3:=sizeOf3
  v3:=zeroValue3
  t5:=underlying5
  a5:=isAgg5
  z5:=sizeOf5
  v5:=zeroValue5
  t37:=underlying22
  a37:=isAgg22
  z37:=sizeOf22
  v37:=zeroValue22 }
open Go.Proofs Go.RowKit Go.Lib in
theorem Tryz.bytes_Index_at (a1 a2 : Addr) (n c1 k c2 : Nat) (xs ys : List Int) (m : Int) (w : World) (hx : xs.length = n) (hy : ys.length = k) (hr1 : ∀ x ∈ xs, 0 ≤ x ∧ x < 256) (hr2 : ∀ y ∈ ys, 0 ≤ y ∧ y < 256) (hc1 : ∀ i, i < n → w.cell? (a1.add i) = some (.int .u8 (xs.getD i 0))) (hc2 : ∀ i, i < k → w.cell? (a2.add i) = some (.int .u8 (ys.getD i 0))) (hcap : n ≤ c1) (hs : n < 4294967281) (hk : k ≤ 9223372036854775807) (hm : w.cell? ⟨1, 0, none⟩ = some (.int .i64 m)) :
    Calls Tryz.prog 143 #[.slice (some a1) n c1, .slice (some a2) k c2] w fun e w' => e = .returned (.int .i64 (Lib.index (Lib.bytesOf xs) (Lib.bytesOf ys))) ∧ ∃ q, w' = w.drewN q:=Any.bytes_Index_at Tryz.lays185 a1 a2 n c1 k c2 xs ys m w hx hy hr1 hr2 hc1 hc2 hcap hs hk hm
theorem Tryz.bytes_IndexByte (b o n c : Nat) (xs : List Int) (cv : Int) (w : World) (hx : xs.length = n) (hc : ∀ i, i < n → w.cell? ⟨b, o + i, none⟩ = some (.int .u8 (xs.getD i 0))) :
    Calls Tryz.prog 92 #[.slice (some ⟨b, o, none⟩) n c, .int .u8 cv] w fun e w' => e = .returned (.int .i64 (Lib.indexByte (Lib.bytesOf xs) cv.toNat.toUInt8)) ∧ w' = w:=Any.bytes_IndexByte Tryz.lays187 b o n c xs cv w hx hc
end Go.Proofs
