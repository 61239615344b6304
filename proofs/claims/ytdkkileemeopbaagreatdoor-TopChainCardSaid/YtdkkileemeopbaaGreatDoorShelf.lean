/-
  Contracts of the library functions that the law reaches.
-/
import Derived.Shelf.Strings.Builder1
import Derived.Shelf.Strings.Builder2
import Derived.Shelf.Strings.Trim
import Derived.Shelf.Small.Utf8
import Derived.Shelf.Small.Strs
import Derived.Shelf.Small.Wraps
import Derived.Shelf.Strings.BuilderF
import Derived.Shelf.Strings.BuilderK
import Derived.Shelf.Strings.BuilderRune
import Derived.Shelf.Strings.Builder2Cap
import Derived.Shelf.Strconv.Atoi
import Derived.Shelf.Strconv.Itoa0
import Derived.Shelf.Strconv.Itoa1
import Derived.Shelf.LaysM
import Derived.Shelf.Strconv.Itoa2
import Derived.Shelf.Strconv.Itoa3
import Derived.Shelf.Strconv.Itoa4
import Derived.Shelf.Strings.Search1
import Derived.Shelf.Strings.Search2
import Derived.Shelf.Strings.Search3
import Derived.Shelf.Strings.Cut
import Derived.Shelf.Strings.Count
import Derived.Shelf.Strings.Shaped
import Derived.Shelf.GgClosure.StringsIndexFunc
import Derived.Shelf.Strings.Prefix
import Derived.Shelf.Strings.Fields
import Derived.Shelf.Strings.Runes
import Derived.Shelf.Strings.IndexAny
import Derived.Shelf.Strings.AsciiSet
import Derived.Shelf.Strings.IndexAnyAll
import Derived.Shelf.Bits.Mul64
import Derived.Shelf.Strings.Repeat
import Derived.Shelf.Unicode.DecodeSlow
import Derived.Shelf.Unicode.DecodeAny
import Derived.Shelf.Strings.MapAny
import Derived.Shelf.Strings.BuilderCap
import Derived.Shelf.Strings.MapGrows
import Derived.Shelf.Bytes.SlIndexSmall
import Derived.Shelf.Bytes.SlIndexAt
import Derived.Shelf.Bytes.SlSearch0
import Derived.Shelf.Bytes.SlSmallAll
import Derived.Shelf.Bytes.SlEqualAll
import Derived.Shelf.Bytes.Small
import Derived.Shelf.Bytes.IndexByte
import Derived.Test.YtdkkileemeopbaaGreatDoorProg
namespace Go.Proofs
open Go.Shelf
open Tryz
theorem hT{α:Type}{a:Option α}{b c:α}(h:a=some b)(e:b=c):a=some c:=h.trans (congrArg some e)
def Tryz.lays161_ren : Go.Shelf.Ren:=⟨fun | 161 => 148 | 231 => 72 | 227 => 74 | 233 => 75 | 235 => 77 | 228 => 136 | 197 => 137 | 151 => 138 | 260 => 204 | 152 => 205 | 137 => 162 | 119 => 251 | 224 => 247 | 225 => 252 | 217 => 221 | 266 => 260 | n => n, fun | 9 => 9 | 4 => 4 | 3 => 3 | 5 => 5 | 117 => 140 | 116 => 139 | 0 => 0 | 124 => 143 | 105 => 218 | 21 => 21 | 119 => 323 | 46 => 131 | 139 => 326 | 138 => 325 | n => n, fun | 3 => 3 | 4 => 4 | n => n⟩
theorem Tryz.lays161 : Go.Proofs.Lays.n161 Tryz.prog Tryz.lays161_ren:={
  mixed:=by kernel_rfl
  f119:=hT func251 (by kernel_rfl)
  f137:=hT func162 (by kernel_rfl)
  f151:=hT func138 (by kernel_rfl)
  f152:=hT func205 (by kernel_rfl)
  f161:=hT func148 (by kernel_rfl)
  f197:=hT func137 (by kernel_rfl)
  f217:=hT func221 (by kernel_rfl)
  f224:=hT func247 (by kernel_rfl)
  f225:=hT func252 (by kernel_rfl)
  f227:=hT func74 (by kernel_rfl)
  f228:=hT func136 (by kernel_rfl)
  f231:=hT func72 (by kernel_rfl)
  f233:=hT func75 (by kernel_rfl)
  f235:=hT func77 (by kernel_rfl)
  f260:=hT func204 (by kernel_rfl)
  f266:=hT func260 (by kernel_rfl)
  t0:=underlying0
  a0:=isAgg0
  z0:=sizeOf0
  v0:=zeroValue0
  t3:=underlying3
  a3:=isAgg3
  z3:=sizeOf3
  v3:=zeroValue3
  t4:=underlying4
  a4:=isAgg4
  z4:=sizeOf4
  v4:=zeroValue4
  t5:=underlying5
  a5:=isAgg5
  z5:=sizeOf5
  v5:=zeroValue5
  t9:=underlying9
  a9:=isAgg9
  z9:=sizeOf9
  v9:=zeroValue9
  t21:=underlying21
  a21:=isAgg21
  z21:=sizeOf21
  v21:=zeroValue21
  t46:=underlying131
  a46:=isAgg131
  z46:=sizeOf131
  v46:=zeroValue131
  t105:=underlying218
  a105:=isAgg218
  z105:=sizeOf218
  v105:=zeroValue218
  t116:=underlying139
  a116:=isAgg139
  z116:=sizeOf139
  t117:=underlying140
  a117:=isAgg140
  z117:=sizeOf140
  v117:=zeroValue140
  t119:=underlying323
  a119:=isAgg323
  z119:=sizeOf323
  t124:=underlying143
  a124:=isAgg143
  z124:=sizeOf143
  v124:=zeroValue143
  t138:=underlying325
  a138:=isAgg325
  z138:=sizeOf325
  v138:=zeroValue325
  t139:=underlying326
  a139:=isAgg326
  z139:=sizeOf326
  v139:=zeroValue326
  g3:=by kernel_rfl
  g4:=by kernel_rfl }
def Tryz.lays162_ren : Go.Shelf.Ren:=⟨fun | 162 => 213 | 232 => 73 | 227 => 74 | 234 => 76 | 236 => 78 | 228 => 136 | 271 => 139 | 151 => 138 | 120 => 206 | 197 => 137 | 152 => 205 | 260 => 204 | 137 => 162 | 119 => 251 | 224 => 247 | 225 => 252 | 217 => 221 | 266 => 260 | n => n, fun | 9 => 9 | 4 => 4 | 3 => 3 | 5 => 5 | 117 => 140 | 116 => 139 | 0 => 0 | 124 => 143 | 21 => 21 | 105 => 218 | 46 => 131 | 119 => 323 | 139 => 326 | 138 => 325 | n => n, fun | 3 => 3 | 4 => 4 | n => n⟩
theorem Tryz.lays162 : Go.Proofs.Lays.n162 Tryz.prog Tryz.lays162_ren:={
  mixed:=by kernel_rfl
  f119:=hT func251 (by kernel_rfl)
  f120:=hT func206 (by kernel_rfl)
  f137:=hT func162 (by kernel_rfl)
  f151:=hT func138 (by kernel_rfl)
  f152:=hT func205 (by kernel_rfl)
  f162:=hT func213 (by kernel_rfl)
  f197:=hT func137 (by kernel_rfl)
  f217:=hT func221 (by kernel_rfl)
  f224:=hT func247 (by kernel_rfl)
  f225:=hT func252 (by kernel_rfl)
  f227:=hT func74 (by kernel_rfl)
  f228:=hT func136 (by kernel_rfl)
  f232:=hT func73 (by kernel_rfl)
  f234:=hT func76 (by kernel_rfl)
  f236:=hT func78 (by kernel_rfl)
  f260:=hT func204 (by kernel_rfl)
  f266:=hT func260 (by kernel_rfl)
  f271:=hT func139 (by kernel_rfl)
  t0:=underlying0
  a0:=isAgg0
  z0:=sizeOf0
  v0:=zeroValue0
  t3:=underlying3
  a3:=isAgg3
  z3:=sizeOf3
  v3:=zeroValue3
  t4:=underlying4
  a4:=isAgg4
  z4:=sizeOf4
  v4:=zeroValue4
  t5:=underlying5
  a5:=isAgg5
  z5:=sizeOf5
  v5:=zeroValue5
  t9:=underlying9
  a9:=isAgg9
  z9:=sizeOf9
  v9:=zeroValue9
  t21:=underlying21
  a21:=isAgg21
  z21:=sizeOf21
  v21:=zeroValue21
  t46:=underlying131
  a46:=isAgg131
  z46:=sizeOf131
  v46:=zeroValue131
  t105:=underlying218
  a105:=isAgg218
  z105:=sizeOf218
  v105:=zeroValue218
  t116:=underlying139
  a116:=isAgg139
  z116:=sizeOf139
  t117:=underlying140
  a117:=isAgg140
  z117:=sizeOf140
  v117:=zeroValue140
  t119:=underlying323
  a119:=isAgg323
  z119:=sizeOf323
  t124:=underlying143
  a124:=isAgg143
  z124:=sizeOf143
  v124:=zeroValue143
  t138:=underlying325
  a138:=isAgg325
  z138:=sizeOf325
  v138:=zeroValue325
  t139:=underlying326
  a139:=isAgg326
  z139:=sizeOf326
  v139:=zeroValue326
  g3:=by kernel_rfl
  g4:=by kernel_rfl }
def Tryz.lays160_ren : Go.Shelf.Ren:=⟨fun | 160 => 26 | 232 => 73 | 231 => 72 | 227 => 74 | 234 => 76 | 233 => 75 | 236 => 78 | 235 => 77 | 228 => 136 | 271 => 139 | 151 => 138 | 197 => 137 | 120 => 206 | 152 => 205 | 260 => 204 | 137 => 162 | 119 => 251 | 224 => 247 | 225 => 252 | 217 => 221 | 266 => 260 | n => n, fun | 9 => 9 | 4 => 4 | 3 => 3 | 5 => 5 | 117 => 140 | 116 => 139 | 0 => 0 | 124 => 143 | 21 => 21 | 105 => 218 | 46 => 131 | 119 => 323 | 139 => 326 | 138 => 325 | n => n, fun | 3 => 3 | 4 => 4 | n => n⟩
theorem Tryz.lays160 : Go.Proofs.Lays.n160 Tryz.prog Tryz.lays160_ren:={
  mixed:=by kernel_rfl
  f119:=hT func251 (by kernel_rfl)
  f120:=hT func206 (by kernel_rfl)
  f137:=hT func162 (by kernel_rfl)
  f151:=hT func138 (by kernel_rfl)
  f152:=hT func205 (by kernel_rfl)
  f160:=hT func26 (by kernel_rfl)
  f197:=hT func137 (by kernel_rfl)
  f217:=hT func221 (by kernel_rfl)
  f224:=hT func247 (by kernel_rfl)
  f225:=hT func252 (by kernel_rfl)
  f227:=hT func74 (by kernel_rfl)
  f228:=hT func136 (by kernel_rfl)
  f231:=hT func72 (by kernel_rfl)
  f232:=hT func73 (by kernel_rfl)
  f233:=hT func75 (by kernel_rfl)
  f234:=hT func76 (by kernel_rfl)
  f235:=hT func77 (by kernel_rfl)
  f236:=hT func78 (by kernel_rfl)
  f260:=hT func204 (by kernel_rfl)
  f266:=hT func260 (by kernel_rfl)
  f271:=hT func139 (by kernel_rfl)
  t0:=underlying0
  a0:=isAgg0
  z0:=sizeOf0
  v0:=zeroValue0
  t3:=underlying3
  a3:=isAgg3
  z3:=sizeOf3
  v3:=zeroValue3
  t4:=underlying4
  a4:=isAgg4
  z4:=sizeOf4
  v4:=zeroValue4
  t5:=underlying5
  a5:=isAgg5
  z5:=sizeOf5
  v5:=zeroValue5
  t9:=underlying9
  a9:=isAgg9
  z9:=sizeOf9
  v9:=zeroValue9
  t21:=underlying21
  a21:=isAgg21
  z21:=sizeOf21
  v21:=zeroValue21
  t46:=underlying131
  a46:=isAgg131
  z46:=sizeOf131
  v46:=zeroValue131
  t105:=underlying218
  a105:=isAgg218
  z105:=sizeOf218
  v105:=zeroValue218
  t116:=underlying139
  a116:=isAgg139
  z116:=sizeOf139
  t117:=underlying140
  a117:=isAgg140
  z117:=sizeOf140
  v117:=zeroValue140
  t119:=underlying323
  a119:=isAgg323
  z119:=sizeOf323
  t124:=underlying143
  a124:=isAgg143
  z124:=sizeOf143
  v124:=zeroValue143
  t138:=underlying325
  a138:=isAgg325
  z138:=sizeOf325
  v138:=zeroValue325
  t139:=underlying326
  a139:=isAgg326
  z139:=sizeOf326
  v139:=zeroValue326
  g3:=by kernel_rfl
  g4:=by kernel_rfl }
def Tryz.lays118_ren : Go.Shelf.Ren:=⟨fun | 118 => 164 | n => n, fun | 21 => 21 | 3 => 3 | 4 => 4 | n => n, fun | n => n⟩
theorem Tryz.lays118 : Go.Proofs.Lays.n118 Tryz.prog Tryz.lays118_ren:={
  mixed:=by kernel_rfl
  f118:=hT func164 (by kernel_rfl)
  t3:=underlying3
  a3:=isAgg3
  z3:=sizeOf3
  v3:=zeroValue3
  t4:=underlying4
  a4:=isAgg4
  z4:=sizeOf4
  v4:=zeroValue4
  t21:=underlying21
  a21:=isAgg21
  z21:=sizeOf21
  v21:=zeroValue21 }
theorem Tryz.utf8_RuneLen (r : Int) (w : World) :
    Calls Tryz.prog 164 #[.int .i32 r] w fun e w' => e = .returned (.int .i64 (Lib.runeLen r)) ∧ w' = w:=Any.utf8_RuneLen Tryz.lays118 r w
def Tryz.lays137_ren : Go.Shelf.Ren:=⟨fun | 137 => 162 | 217 => 221 | 266 => 260 | n => n, fun | 9 => 9 | 5 => 5 | 3 => 3 | n => n, fun | n => n⟩
theorem Tryz.lays137 : Go.Proofs.Lays.n137 Tryz.prog Tryz.lays137_ren:={
  mixed:=by kernel_rfl
  f137:=hT func162 (by kernel_rfl)
  f217:=hT func221 (by kernel_rfl)
  f266:=hT func260 (by kernel_rfl)
  t3:=underlying3
  a3:=isAgg3
  z3:=sizeOf3
  v3:=zeroValue3
  t5:=underlying5
  a5:=isAgg5
  z5:=sizeOf5
  v5:=zeroValue5
  t9:=underlying9
  a9:=isAgg9
  z9:=sizeOf9
  v9:=zeroValue9 }
open Go.RowKit in
theorem Tryz.strings_IndexByte (s : ByteArray) (c : Int) (w : World) :
    Calls Tryz.prog 162 #[.string s, .int .u8 c] w fun e w' => e = .returned (.int .i64 (Lib.indexByte s.data.toList c.toNat.toUInt8)) ∧ w' = w:=Any.strings_IndexByte Tryz.lays137 s c w
def Tryz.lays103_ren : Go.Shelf.Ren:=⟨fun | 103 => 193 | 210 => 243 | 206 => 201 | n => n, fun | 9 => 9 | 4 => 4 | 24 => 71 | 3 => 3 | n => n, fun | n => n⟩
theorem Tryz.lays103 : Go.Proofs.Lays.n103 Tryz.prog Tryz.lays103_ren:={
  mixed:=by kernel_rfl
  f103:=hT func193 (by kernel_rfl)
  f206:=hT func201 (by kernel_rfl)
  f210:=hT func243 (by kernel_rfl)
  t3:=underlying3
  a3:=isAgg3
  z3:=sizeOf3
  v3:=zeroValue3
  t4:=underlying4
  a4:=isAgg4
  z4:=sizeOf4
  v4:=zeroValue4
  t9:=underlying9
  a9:=isAgg9
  z9:=sizeOf9
  v9:=zeroValue9
  t24:=underlying71
  a24:=isAgg71
  z24:=sizeOf71
  v24:=zeroValue71 }
open Go.RowKit in
theorem Tryz.strings_CutPrefix (s p : ByteArray) (w : World) :
    Calls Tryz.prog 193 #[.string s, .string p] w fun e w' => e = .returned (.tuple #[.string ⟨(Lib.trimPrefix s.data.toList p.data.toList).toArray⟩, .bool (Lib.hasPrefix s.data.toList p.data.toList)]) ∧ w' = w:=Any.strings_CutPrefix Tryz.lays103 s p w
def Tryz.lays104_ren : Go.Shelf.Ren:=⟨fun | 104 => 91 | 211 => 158 | 207 => 218 | n => n, fun | 9 => 9 | 4 => 4 | 24 => 71 | 3 => 3 | n => n, fun | n => n⟩
theorem Tryz.lays104 : Go.Proofs.Lays.n104 Tryz.prog Tryz.lays104_ren:={
  mixed:=by kernel_rfl
  f104:=hT func91 (by kernel_rfl)
  f207:=hT func218 (by kernel_rfl)
  f211:=hT func158 (by kernel_rfl)
  t3:=underlying3
  a3:=isAgg3
  z3:=sizeOf3
  v3:=zeroValue3
  t4:=underlying4
  a4:=isAgg4
  z4:=sizeOf4
  v4:=zeroValue4
  t9:=underlying9
  a9:=isAgg9
  z9:=sizeOf9
  v9:=zeroValue9
  t24:=underlying71
  a24:=isAgg71
  z24:=sizeOf71
  v24:=zeroValue71 }
open Go.RowKit in
theorem Tryz.strings_CutSuffix (s p : ByteArray) (w : World) (hs : s.size ≤ 9223372036854775807) :
    Calls Tryz.prog 91 #[.string s, .string p] w fun e w' => e = .returned (.tuple #[.string ⟨(Lib.trimSuffix s.data.toList p.data.toList).toArray⟩, .bool (Lib.hasSuffix s.data.toList p.data.toList)]) ∧ w' = w:=Any.strings_CutSuffix Tryz.lays104 s p w hs
def Tryz.lays172_ren : Go.Shelf.Ren:=⟨fun | 172 => 253 | 244 => 288 | 245 => 289 | 247 => 304 | 279 => 305 | 280 => 306 | 281 => 307 | 282 => 308 | 287 => 313 | 316 => 314 | 171 => 241 | 205 => 315 | 321 => 316 | 322 => 317 | 243 => 280 | 246 => 244 | 283 => 281 | 284 => 282 | 285 => 283 | 286 => 284 | 129 => 300 | 317 => 299 | 318 => 301 | 319 => 302 | 320 => 303 | 337 => 311 | 338 => 312 | n => n, fun | 9 => 9 | 3 => 3 | 75 => 214 | 76 => 215 | 4 => 4 | 5 => 5 | 167 => 360 | 37 => 22 | 0 => 0 | 85 => 361 | 2 => 2 | 168 => 363 | 53 => 283 | 175 => 377 | 46 => 131 | 210 => 380 | 127 => 286 | 145 => 389 | 143 => 387 | 21 => 21 | 171 => 338 | 173 => 341 | 212 => 357 | 51 => 280 | 20 => 20 | 213 => 358 | 232 => 384 | 233 => 385 | 80 => 69 | n => n, fun | 15 => 9 | 16 => 10 | 17 => 8 | 18 => 11 | 19 => 12 | n => n⟩
theorem Tryz.lays172 : Go.Proofs.Lays.n172 Tryz.prog Tryz.lays172_ren:={
  mixed:=by kernel_rfl
  f129:=hT func300 (by kernel_rfl)
  f171:=hT func241 (by kernel_rfl)
  f172:=hT func253 (by kernel_rfl)
  f205:=hT func315 (by kernel_rfl)
  f243:=hT func280 (by kernel_rfl)
  f244:=hT func288 (by kernel_rfl)
  f245:=hT func289 (by kernel_rfl)
  f246:=hT func244 (by kernel_rfl)
  f247:=hT func304 (by kernel_rfl)
  f279:=hT func305 (by kernel_rfl)
  f280:=hT func306 (by kernel_rfl)
  f281:=hT func307 (by kernel_rfl)
  f282:=hT func308 (by kernel_rfl)
  f283:=hT func281 (by kernel_rfl)
  f284:=hT func282 (by kernel_rfl)
  f285:=hT func283 (by kernel_rfl)
  f286:=hT func284 (by kernel_rfl)
  f287:=hT func313 (by kernel_rfl)
  f316:=hT func314 (by kernel_rfl)
  f317:=hT func299 (by kernel_rfl)
  f318:=hT func301 (by kernel_rfl)
  f319:=hT func302 (by kernel_rfl)
  f320:=hT func303 (by kernel_rfl)
  f321:=hT func316 (by kernel_rfl)
  f322:=hT func317 (by kernel_rfl)
  f337:=hT func311 (by kernel_rfl)
  f338:=hT func312 (by kernel_rfl)
  t0:=underlying0
  a0:=isAgg0
  z0:=sizeOf0
  v0:=zeroValue0
  t2:=underlying2
  a2:=isAgg2
  z2:=sizeOf2
  v2:=zeroValue2
  t3:=underlying3
  a3:=isAgg3
  z3:=sizeOf3
  v3:=zeroValue3
  t4:=underlying4
  a4:=isAgg4
  z4:=sizeOf4
  v4:=zeroValue4
  t5:=underlying5
  a5:=isAgg5
  z5:=sizeOf5
  v5:=zeroValue5
  t9:=underlying9
  a9:=isAgg9
  z9:=sizeOf9
  v9:=zeroValue9
  t20:=underlying20
  a20:=isAgg20
  z20:=sizeOf20
  v20:=zeroValue20
  t21:=underlying21
  a21:=isAgg21
  z21:=sizeOf21
  v21:=zeroValue21
  t37:=underlying22
  a37:=isAgg22
  z37:=sizeOf22
  v37:=zeroValue22
  t46:=underlying131
  a46:=isAgg131
  z46:=sizeOf131
  v46:=zeroValue131
  t51:=underlying280
  a51:=isAgg280
  z51:=sizeOf280
  v51:=zeroValue280
  t53:=underlying283
  a53:=isAgg283
  z53:=sizeOf283
  v53:=zeroValue283
  t75:=underlying214
  a75:=isAgg214
  z75:=sizeOf214
  v75:=zeroValue214
  t76:=underlying215
  a76:=isAgg215
  z76:=sizeOf215
  v76:=zeroValue215
  t85:=underlying361
  a85:=isAgg361
  z85:=sizeOf361
  v85:=zeroValue361
  t127:=underlying286
  a127:=isAgg286
  z127:=sizeOf286
  v127:=zeroValue286
  t143:=underlying387
  a143:=isAgg387
  z143:=sizeOf387
  v143:=zeroValue387
  t145:=underlying389
  a145:=isAgg389
  z145:=sizeOf389
  v145:=zeroValue389
  t167:=underlying360
  a167:=isAgg360
  z167:=sizeOf360
  v167:=zeroValue360
  t168:=underlying363
  a168:=isAgg363
  z168:=sizeOf363
  v168:=zeroValue363
  t171:=underlying338
  a171:=isAgg338
  z171:=sizeOf338
  v171:=zeroValue338
  t173:=underlying341
  a173:=isAgg341
  z173:=sizeOf341
  v173:=zeroValue341
  t175:=underlying377
  a175:=isAgg377
  z175:=sizeOf377
  v175:=zeroValue377
  t210:=underlying380
  a210:=isAgg380
  z210:=sizeOf380
  v210:=zeroValue380
  t212:=underlying357
  a212:=isAgg357
  z212:=sizeOf357
  v212:=zeroValue357
  t213:=underlying358
  a213:=isAgg358
  z213:=sizeOf358
  t232:=underlying384
  a232:=isAgg384
  z232:=sizeOf384
  v232:=zeroValue384
  t233:=underlying385
  a233:=isAgg385
  z233:=sizeOf385
  v233:=zeroValue385
  g15:=by kernel_rfl
  g16:=by kernel_rfl
  g17:=by kernel_rfl
  g18:=by kernel_rfl
  g19:=by kernel_rfl }
open Go.RowKit in
theorem Tryz.strconv_Atoi (s : ByteArray) (n : Int) (hl : s.size ≤ 18) (h : Lib.atoi s.data.toList = some n) (w : World) :
    Calls Tryz.prog 253 #[.string s] w fun e w' => e = .returned (.tuple #[.int .i64 n, .nilIface]) ∧ ∃ t, w' = Lib.bytesWorld w 5 t:=Any.strconv_Atoi Tryz.lays172 s n hl h w
def Tryz.laysM171_ren : Go.Shelf.Ren:=⟨fun | 171 => 241 | 243 => 280 | 246 => 244 | 283 => 281 | 284 => 282 | 285 => 283 | 286 => 284 | 129 => 300 | 317 => 299 | 318 => 301 | 319 => 302 | 320 => 303 | 337 => 311 | 338 => 312 | n => n, fun | 3 => 3 | 9 => 9 | 2 => 2 | 4 => 4 | 171 => 338 | 0 => 0 | 53 => 283 | 37 => 22 | 5 => 5 | 173 => 341 | 212 => 357 | 51 => 280 | 20 => 20 | 213 => 358 | 46 => 131 | 232 => 384 | 233 => 385 | n => n, fun | 17 => 8 | 18 => 11 | 19 => 12 | n => n⟩
theorem Tryz.laysM171 : Go.Proofs.LaysM.n171 Tryz.prog Tryz.laysM171_ren:={
  mixed:=by kernel_rfl
  f129:=hT func300 (by kernel_rfl)
  f171:=hT func241 (by kernel_rfl)
  f243:=hT func280 (by kernel_rfl)
  f246:=hT func244 (by kernel_rfl)
  f283:=hT func281 (by kernel_rfl)
  f284:=hT func282 (by kernel_rfl)
  f285:=hT func283 (by kernel_rfl)
  f286:=hT func284 (by kernel_rfl)
  f317:=hT func299 (by kernel_rfl)
  f318:=hT func301 (by kernel_rfl)
  f319:=hT func302 (by kernel_rfl)
  f320:=hT func303 (by kernel_rfl)
  f337:=hT func311 (by kernel_rfl)
  f338:=hT func312 (by kernel_rfl)
  t0:=underlying0
  a0:=isAgg0
  z0:=sizeOf0
  v0:=zeroValue0
  t2:=underlying2
  a2:=isAgg2
  z2:=sizeOf2
  v2:=zeroValue2
  t3:=underlying3
  a3:=isAgg3
  z3:=sizeOf3
  v3:=zeroValue3
  t4:=underlying4
  a4:=isAgg4
  z4:=sizeOf4
  v4:=zeroValue4
  t5:=underlying5
  a5:=isAgg5
  z5:=sizeOf5
  v5:=zeroValue5
  t9:=underlying9
  a9:=isAgg9
  z9:=sizeOf9
  v9:=zeroValue9
  t20:=underlying20
  a20:=isAgg20
  z20:=sizeOf20
  v20:=zeroValue20
  t37:=underlying22
  a37:=isAgg22
  z37:=sizeOf22
  v37:=zeroValue22
  t46:=underlying131
  a46:=isAgg131
  z46:=sizeOf131
  v46:=zeroValue131
  t51:=underlying280
  a51:=isAgg280
  z51:=sizeOf280
  v51:=zeroValue280
  t53:=underlying283
  a53:=isAgg283
  z53:=sizeOf283
  v53:=zeroValue283
  t171:=underlying338
  a171:=isAgg338
  z171:=sizeOf338
  v171:=zeroValue338
  t173:=underlying341
  a173:=isAgg341
  z173:=sizeOf341
  v173:=zeroValue341
  t212:=underlying357
  a212:=isAgg357
  z212:=sizeOf357
  v212:=zeroValue357
  t213:=underlying358
  a213:=isAgg358
  z213:=sizeOf358
  t232:=underlying384
  a232:=isAgg384
  z232:=sizeOf384
  v232:=zeroValue384
  t233:=underlying385
  a233:=isAgg385
  z233:=sizeOf385
  v233:=zeroValue385
  g17:=by kernel_rfl
  g18:=by kernel_rfl
  g19:=by kernel_rfl
  i0:=by kernel_rfl
  i2:=by kernel_rfl
  i3:=by kernel_rfl
  i4:=by kernel_rfl
  i5:=by kernel_rfl
  i9:=by kernel_rfl
  i20:=by kernel_rfl
  i37:=by kernel_rfl
  i46:=by kernel_rfl
  i51:=by kernel_rfl
  i53:=by kernel_rfl
  i171:=by kernel_rfl
  i173:=by kernel_rfl
  i212:=by kernel_rfl
  i232:=by kernel_rfl
  i233:=by kernel_rfl
  m17:=by kernel_rfl
  m18:=by kernel_rfl
  m19:=by kernel_rfl }
open Go.RowKit Go.Sort Go.Lib in
theorem Tryz.strconv_Itoa (n : Int) (h0 : -9223372036854775808 ≤ n) (h1 : n ≤ 9223372036854775807) (w : World) (htab : Lib.TabIs Tryz.prog w "internal/strconv.uint64pow10" .u64 Lib.pow10Tab) :
    Calls Tryz.prog 241 #[.int .i64 n] w fun e w' => e = .returned (.string ⟨(Lib.itoa n).toArray⟩) ∧ ∃ k os, w' = grow (w.drewN k) os:=Any.strconv_Itoa Tryz.laysM171 n h0 h1 w htab
def Tryz.laysM173_ren : Go.Shelf.Ren:=⟨fun | 173 => 194 | 246 => 244 | 283 => 281 | 284 => 282 | 285 => 283 | 286 => 284 | 129 => 300 | 317 => 299 | 318 => 301 | 319 => 302 | 320 => 303 | 337 => 311 | 338 => 312 | n => n, fun | 2 => 2 | 3 => 3 | 9 => 9 | 4 => 4 | 171 => 338 | 0 => 0 | 53 => 283 | 37 => 22 | 5 => 5 | 173 => 341 | 212 => 357 | 51 => 280 | 20 => 20 | 213 => 358 | 46 => 131 | 232 => 384 | 233 => 385 | n => n, fun | 17 => 8 | 18 => 11 | 19 => 12 | n => n⟩
theorem Tryz.laysM173 : Go.Proofs.LaysM.n173 Tryz.prog Tryz.laysM173_ren:={
  mixed:=by kernel_rfl
  f129:=hT func300 (by kernel_rfl)
  f173:=hT func194 (by kernel_rfl)
  f246:=hT func244 (by kernel_rfl)
  f283:=hT func281 (by kernel_rfl)
  f284:=hT func282 (by kernel_rfl)
  f285:=hT func283 (by kernel_rfl)
  f286:=hT func284 (by kernel_rfl)
  f317:=hT func299 (by kernel_rfl)
  f318:=hT func301 (by kernel_rfl)
  f319:=hT func302 (by kernel_rfl)
  f320:=hT func303 (by kernel_rfl)
  f337:=hT func311 (by kernel_rfl)
  f338:=hT func312 (by kernel_rfl)
  t0:=underlying0
  a0:=isAgg0
  z0:=sizeOf0
  v0:=zeroValue0
  t2:=underlying2
  a2:=isAgg2
  z2:=sizeOf2
  v2:=zeroValue2
  t3:=underlying3
  a3:=isAgg3
  z3:=sizeOf3
  v3:=zeroValue3
  t4:=underlying4
  a4:=isAgg4
  z4:=sizeOf4
  v4:=zeroValue4
  t5:=underlying5
  a5:=isAgg5
  z5:=sizeOf5
  v5:=zeroValue5
  t9:=underlying9
  a9:=isAgg9
  z9:=sizeOf9
  v9:=zeroValue9
  t20:=underlying20
  a20:=isAgg20
  z20:=sizeOf20
  v20:=zeroValue20
  t37:=underlying22
  a37:=isAgg22
  z37:=sizeOf22
  v37:=zeroValue22
  t46:=underlying131
  a46:=isAgg131
  z46:=sizeOf131
  v46:=zeroValue131
  t51:=underlying280
  a51:=isAgg280
  z51:=sizeOf280
  v51:=zeroValue280
  t53:=underlying283
  a53:=isAgg283
  z53:=sizeOf283
  v53:=zeroValue283
  t171:=underlying338
  a171:=isAgg338
  z171:=sizeOf338
  v171:=zeroValue338
  t173:=underlying341
  a173:=isAgg341
  z173:=sizeOf341
  v173:=zeroValue341
  t212:=underlying357
  a212:=isAgg357
  z212:=sizeOf357
  v212:=zeroValue357
  t213:=underlying358
  a213:=isAgg358
  z213:=sizeOf358
  t232:=underlying384
  a232:=isAgg384
  z232:=sizeOf384
  v232:=zeroValue384
  t233:=underlying385
  a233:=isAgg385
  z233:=sizeOf385
  v233:=zeroValue385
  g17:=by kernel_rfl
  g18:=by kernel_rfl
  g19:=by kernel_rfl
  i0:=by kernel_rfl
  i2:=by kernel_rfl
  i3:=by kernel_rfl
  i4:=by kernel_rfl
  i5:=by kernel_rfl
  i9:=by kernel_rfl
  i20:=by kernel_rfl
  i37:=by kernel_rfl
  i46:=by kernel_rfl
  i51:=by kernel_rfl
  i53:=by kernel_rfl
  i171:=by kernel_rfl
  i173:=by kernel_rfl
  i212:=by kernel_rfl
  i232:=by kernel_rfl
  i233:=by kernel_rfl
  m17:=by kernel_rfl
  m18:=by kernel_rfl
  m19:=by kernel_rfl }
open Go.RowKit Go.Sort Go.Lib in
theorem Tryz.strconv_FormatInt_10 (n : Int) (h0 : -9223372036854775808 ≤ n) (h1 : n ≤ 9223372036854775807) (w : World) (htab : Lib.TabIs Tryz.prog w "internal/strconv.uint64pow10" .u64 Lib.pow10Tab) :
    Calls Tryz.prog 194 #[.int .i64 n, .int .i64 10] w fun e w' => e = .returned (.string ⟨(Lib.itoa n).toArray⟩) ∧ ∃ k os, w' = grow (w.drewN k) os:=Any.strconv_FormatInt_10 Tryz.laysM173 n h0 h1 w htab
def Tryz.lays144_ren : Go.Shelf.Ren:=⟨fun | 144 => 262 | 143 => 161 | 219 => 220 | 217 => 221 | 225 => 252 | 224 => 247 | 267 => 259 | 266 => 260 | 314 => 291 | n => n, fun | 9 => 9 | 4 => 4 | 3 => 3 | 5 => 5 | 46 => 131 | 146 => 281 | 51 => 280 | n => n, fun | 1 => 2 | n => n⟩
theorem Tryz.lays144 : Go.Proofs.Lays.n144 Tryz.prog Tryz.lays144_ren:={
  mixed:=by kernel_rfl
  f143:=hT func161 (by kernel_rfl)
  f144:=hT func262 (by kernel_rfl)
  f217:=hT func221 (by kernel_rfl)
  f219:=hT func220 (by kernel_rfl)
  f224:=hT func247 (by kernel_rfl)
  f225:=hT func252 (by kernel_rfl)
  f266:=hT func260 (by kernel_rfl)
  f267:=hT func259 (by kernel_rfl)
  f314:=hT func291 (by kernel_rfl)
  t3:=underlying3
  a3:=isAgg3
  z3:=sizeOf3
  v3:=zeroValue3
  t4:=underlying4
  a4:=isAgg4
  z4:=sizeOf4
  v4:=zeroValue4
  t5:=underlying5
  a5:=isAgg5
  z5:=sizeOf5
  v5:=zeroValue5
  t9:=underlying9
  a9:=isAgg9
  z9:=sizeOf9
  v9:=zeroValue9
  t46:=underlying131
  a46:=isAgg131
  z46:=sizeOf131
  v46:=zeroValue131
  t51:=underlying280
  a51:=isAgg280
  z51:=sizeOf280
  v51:=zeroValue280
  t146:=underlying281
  a146:=isAgg281
  z146:=sizeOf281
  v146:=zeroValue281
  g1:=by kernel_rfl }
open Go.RowKit Go.Lib in
theorem Tryz.strings_Contains_one (s : ByteArray) (c : UInt8) (w : World) :
    Calls Tryz.prog 262 #[.string s, .string ⟨#[c]⟩] w fun e w' => e = .returned (.bool (decide (0 ≤ Lib.indexByte s.data.toList c))) ∧ w' = w:=Any.strings_Contains_one Tryz.lays144 s c w
def Tryz.lays145_ren : Go.Shelf.Ren:=⟨fun | 145 => 211 | 220 => 256 | 219 => 220 | 217 => 221 | 225 => 252 | 224 => 247 | 267 => 259 | 266 => 260 | 314 => 291 | n => n, fun | 9 => 9 | 4 => 4 | 59 => 291 | 3 => 3 | 5 => 5 | 46 => 131 | 146 => 281 | 51 => 280 | n => n, fun | 1 => 2 | n => n⟩
theorem Tryz.lays145 : Go.Proofs.Lays.n145 Tryz.prog Tryz.lays145_ren:={
  mixed:=by kernel_rfl
  f145:=hT func211 (by kernel_rfl)
  f217:=hT func221 (by kernel_rfl)
  f219:=hT func220 (by kernel_rfl)
  f220:=hT func256 (by kernel_rfl)
  f224:=hT func247 (by kernel_rfl)
  f225:=hT func252 (by kernel_rfl)
  f266:=hT func260 (by kernel_rfl)
  f267:=hT func259 (by kernel_rfl)
  f314:=hT func291 (by kernel_rfl)
  t3:=underlying3
  a3:=isAgg3
  z3:=sizeOf3
  v3:=zeroValue3
  t4:=underlying4
  a4:=isAgg4
  z4:=sizeOf4
  v4:=zeroValue4
  t5:=underlying5
  a5:=isAgg5
  z5:=sizeOf5
  v5:=zeroValue5
  t9:=underlying9
  a9:=isAgg9
  z9:=sizeOf9
  v9:=zeroValue9
  t46:=underlying131
  a46:=isAgg131
  z46:=sizeOf131
  v46:=zeroValue131
  t51:=underlying280
  a51:=isAgg280
  z51:=sizeOf280
  v51:=zeroValue280
  t59:=underlying291
  a59:=isAgg291
  z59:=sizeOf291
  v59:=zeroValue291
  t146:=underlying281
  a146:=isAgg281
  z146:=sizeOf281
  v146:=zeroValue281
  g1:=by kernel_rfl }
open Go.RowKit Go.Lib in
theorem Tryz.strings_Cut (s sep : ByteArray) (m : Int) (w : World) (hs : s.size < 4294967281) (hm : w.cell? ⟨2, 0, none⟩ = some (.int .i64 m)) :
    Calls Tryz.prog 211 #[.string s, .string sep] w fun e w' => e = .returned (.tuple #[.string ⟨(Lib.cut s.data.toList sep.data.toList).1.toArray⟩, .string ⟨(Lib.cut s.data.toList sep.data.toList).2.1.toArray⟩, .bool (Lib.cut s.data.toList sep.data.toList).2.2]) ∧ ∃ n, w' = w.drewN n:=Any.strings_Cut Tryz.lays145 s sep m w hs hm
def Tryz.lays138_ren : Go.Shelf.Ren:=⟨fun | 138 => 92 | 195 => 159 | 218 => 160 | 143 => 161 | 219 => 220 | 217 => 221 | 225 => 252 | 224 => 247 | 267 => 259 | 266 => 260 | 314 => 291 | n => n, fun | 9 => 9 | 3 => 3 | 4 => 4 | 5 => 5 | 0 => 0 | 46 => 131 | 146 => 281 | 51 => 280 | n => n, fun | 1 => 2 | n => n⟩
theorem Tryz.lays138 : Go.Proofs.Lays.n138 Tryz.prog Tryz.lays138_ren:={
  mixed:=by kernel_rfl
  f138:=hT func92 (by kernel_rfl)
  f143:=hT func161 (by kernel_rfl)
  f195:=hT func159 (by kernel_rfl)
  f217:=hT func221 (by kernel_rfl)
  f218:=hT func160 (by kernel_rfl)
  f219:=hT func220 (by kernel_rfl)
  f224:=hT func247 (by kernel_rfl)
  f225:=hT func252 (by kernel_rfl)
  f266:=hT func260 (by kernel_rfl)
  f267:=hT func259 (by kernel_rfl)
  f314:=hT func291 (by kernel_rfl)
  t0:=underlying0
  a0:=isAgg0
  z0:=sizeOf0
  v0:=zeroValue0
  t3:=underlying3
  a3:=isAgg3
  z3:=sizeOf3
  v3:=zeroValue3
  t4:=underlying4
  a4:=isAgg4
  z4:=sizeOf4
  v4:=zeroValue4
  t5:=underlying5
  a5:=isAgg5
  z5:=sizeOf5
  v5:=zeroValue5
  t9:=underlying9
  a9:=isAgg9
  z9:=sizeOf9
  v9:=zeroValue9
  t46:=underlying131
  a46:=isAgg131
  z46:=sizeOf131
  v46:=zeroValue131
  t51:=underlying280
  a51:=isAgg280
  z51:=sizeOf280
  v51:=zeroValue280
  t146:=underlying281
  a146:=isAgg281
  z146:=sizeOf281
  v146:=zeroValue281
  g1:=by kernel_rfl }
open Go.RowKit Go.Lib in
theorem Tryz.strings_Count_one (s : ByteArray) (c : UInt8) (w : World) :
    Calls Tryz.prog 92 #[.string s, .string ⟨#[c]⟩] w fun e w' => e = .returned (.int .i64 (Lib.countByte s.data.toList c)) ∧ w' = w:=Any.strings_Count_one Tryz.lays138 s c w
def Tryz.lays99_ren : Go.Shelf.Ren:=⟨fun | 99 => 131 | 206 => 201 | n => n, fun | 9 => 9 | 4 => 4 | 3 => 3 | n => n, fun | n => n⟩
theorem Tryz.lays99 : Go.Proofs.Lays.n99 Tryz.prog Tryz.lays99_ren:={
  mixed:=by kernel_rfl
  f99:=hT func131 (by kernel_rfl)
  f206:=hT func201 (by kernel_rfl)
  t3:=underlying3
  a3:=isAgg3
  z3:=sizeOf3
  v3:=zeroValue3
  t4:=underlying4
  a4:=isAgg4
  z4:=sizeOf4
  v4:=zeroValue4
  t9:=underlying9
  a9:=isAgg9
  z9:=sizeOf9
  v9:=zeroValue9 }
open Go.RowKit Go.Lib in
theorem Tryz.strings_HasPrefix (s p : ByteArray) (w : World) :
    Calls Tryz.prog 131 #[.string s, .string p] w fun e w' => e = .returned (.bool (Lib.hasPrefix s.data.toList p.data.toList)) ∧ w' = w:=Any.strings_HasPrefix Tryz.lays99 s p w
def Tryz.lays100_ren : Go.Shelf.Ren:=⟨fun | 100 => 149 | 207 => 218 | n => n, fun | 9 => 9 | 4 => 4 | 3 => 3 | n => n, fun | n => n⟩
theorem Tryz.lays100 : Go.Proofs.Lays.n100 Tryz.prog Tryz.lays100_ren:={
  mixed:=by kernel_rfl
  f100:=hT func149 (by kernel_rfl)
  f207:=hT func218 (by kernel_rfl)
  t3:=underlying3
  a3:=isAgg3
  z3:=sizeOf3
  v3:=zeroValue3
  t4:=underlying4
  a4:=isAgg4
  z4:=sizeOf4
  v4:=zeroValue4
  t9:=underlying9
  a9:=isAgg9
  z9:=sizeOf9
  v9:=zeroValue9 }
open Go.RowKit Go.Lib in
theorem Tryz.strings_HasSuffix (s p : ByteArray) (w : World) (hs : s.size ≤ 9223372036854775807) :
    Calls Tryz.prog 149 #[.string s, .string p] w fun e w' => e = .returned (.bool (Lib.hasSuffix s.data.toList p.data.toList)) ∧ w' = w:=Any.strings_HasSuffix Tryz.lays100 s p w hs
def Tryz.lays102_ren : Go.Shelf.Ren:=⟨fun | 102 => 177 | 209 => 229 | 207 => 218 | n => n, fun | 9 => 9 | 4 => 4 | 3 => 3 | n => n, fun | n => n⟩
theorem Tryz.lays102 : Go.Proofs.Lays.n102 Tryz.prog Tryz.lays102_ren:={
  mixed:=by kernel_rfl
  f102:=hT func177 (by kernel_rfl)
  f207:=hT func218 (by kernel_rfl)
  f209:=hT func229 (by kernel_rfl)
  t3:=underlying3
  a3:=isAgg3
  z3:=sizeOf3
  v3:=zeroValue3
  t4:=underlying4
  a4:=isAgg4
  z4:=sizeOf4
  v4:=zeroValue4
  t9:=underlying9
  a9:=isAgg9
  z9:=sizeOf9
  v9:=zeroValue9 }
open Go.RowKit Go.Lib in
theorem Tryz.strings_TrimSuffix (s p : ByteArray) (w : World) (hs : s.size ≤ 9223372036854775807) :
    Calls Tryz.prog 177 #[.string s, .string p] w fun e w' => e = .returned (.string ⟨(Lib.trimSuffix s.data.toList p.data.toList).toArray⟩) ∧ w' = w:=Any.strings_TrimSuffix Tryz.lays102 s p w hs
def Tryz.lays157_ren : Go.Shelf.Ren:=⟨fun | 157 => 225 | 229 => 264 | 199 => 265 | 261 => 292 | 311 => 309 | 312 => 310 | n => n, fun | 9 => 9 | 31 => 132 | 3 => 3 | 5 => 5 | 4 => 4 | 119 => 323 | 0 => 0 | 40 => 306 | 152 => 348 | 21 => 21 | 154 => 350 | 51 => 280 | 141 => 352 | 196 => 369 | 193 => 366 | 198 => 371 | 49 => 134 | 194 => 367 | 201 => 374 | 226 => 382 | 46 => 131 | 227 => 383 | n => n, fun | 0 => 6 | 6 => 7 | n => n⟩
theorem Tryz.lays157 : Go.Proofs.Lays.n157 Tryz.prog Tryz.lays157_ren:={
  mixed:=by kernel_rfl
  f157:=hT func225 (by kernel_rfl)
  f199:=hT func265 (by kernel_rfl)
  f229:=hT func264 (by kernel_rfl)
  f261:=hT func292 (by kernel_rfl)
  f311:=hT func309 (by kernel_rfl)
  f312:=hT func310 (by kernel_rfl)
  t0:=underlying0
  a0:=isAgg0
  z0:=sizeOf0
  v0:=zeroValue0
  t3:=underlying3
  a3:=isAgg3
  z3:=sizeOf3
  v3:=zeroValue3
  t4:=underlying4
  a4:=isAgg4
  z4:=sizeOf4
  v4:=zeroValue4
  t5:=underlying5
  a5:=isAgg5
  z5:=sizeOf5
  v5:=zeroValue5
  t9:=underlying9
  a9:=isAgg9
  z9:=sizeOf9
  v9:=zeroValue9
  t21:=underlying21
  a21:=isAgg21
  z21:=sizeOf21
  v21:=zeroValue21
  t31:=underlying132
  a31:=isAgg132
  z31:=sizeOf132
  v31:=zeroValue132
  t40:=underlying306
  a40:=isAgg306
  z40:=sizeOf306
  v40:=zeroValue306
  t46:=underlying131
  a46:=isAgg131
  z46:=sizeOf131
  v46:=zeroValue131
  t49:=underlying134
  a49:=isAgg134
  z49:=sizeOf134
  v49:=zeroValue134
  t51:=underlying280
  a51:=isAgg280
  z51:=sizeOf280
  v51:=zeroValue280
  t119:=underlying323
  a119:=isAgg323
  z119:=sizeOf323
  t141:=underlying352
  a141:=isAgg352
  z141:=sizeOf352
  v141:=zeroValue352
  t152:=underlying348
  a152:=isAgg348
  z152:=sizeOf348
  v152:=zeroValue348
  t154:=underlying350
  a154:=isAgg350
  z154:=sizeOf350
  v154:=zeroValue350
  t193:=underlying366
  a193:=isAgg366
  z193:=sizeOf366
  v193:=zeroValue366
  t194:=underlying367
  a194:=isAgg367
  z194:=sizeOf367
  v194:=zeroValue367
  t196:=underlying369
  a196:=isAgg369
  z196:=sizeOf369
  v196:=zeroValue369
  t198:=underlying371
  a198:=isAgg371
  z198:=sizeOf371
  v198:=zeroValue371
  t201:=underlying374
  a201:=isAgg374
  z201:=sizeOf374
  v201:=zeroValue374
  t226:=underlying382
  a226:=isAgg382
  z226:=sizeOf382
  v226:=zeroValue382
  t227:=underlying383
  a227:=isAgg383
  z227:=sizeOf383
  v227:=zeroValue383
  g0:=by kernel_rfl
  g6:=by kernel_rfl }
open Go.RowKit Go.Lib in
theorem Tryz.strings_Fields (s : ByteArray) (w : World) (hs : s.size < 4294967281) (hascii : ∀ (j : Nat) b, s.data.toList[j]? = some b → b.toNat < 128) (htab : Lib.TabIs Tryz.prog w "strings.asciiSpace" .u8 Lib.asciiSpaceTab) :
    Calls Tryz.prog 225 #[.string s] w fun e w' =>
      e = .returned (.slice (some ⟨w.heap.size, 0, none⟩) (Lib.fields s.data.toList).length (Lib.fields s.data.toList).length) ∧ w' = w.alloc (.cells ((Lib.fields s.data.toList).map fun l => Value.string ⟨l.toArray⟩).toArray 9):=Any.strings_Fields Tryz.lays157 (by kernel_rfl) (by kernel_rfl) s w hs hascii htab
def Tryz.lays151_ren : Go.Shelf.Ren:=⟨fun | 151 => 138 | 152 => 205 | 137 => 162 | 119 => 251 | 224 => 247 | 225 => 252 | 217 => 221 | 266 => 260 | n => n, fun | 9 => 9 | 21 => 21 | 4 => 4 | 3 => 3 | 5 => 5 | 0 => 0 | 46 => 131 | n => n, fun | n => n⟩
theorem Tryz.lays151 : Go.Proofs.Lays.n151 Tryz.prog Tryz.lays151_ren:={
  mixed:=by kernel_rfl
  f119:=hT func251 (by kernel_rfl)
  f137:=hT func162 (by kernel_rfl)
  f151:=hT func138 (by kernel_rfl)
  f152:=hT func205 (by kernel_rfl)
  f217:=hT func221 (by kernel_rfl)
  f224:=hT func247 (by kernel_rfl)
  f225:=hT func252 (by kernel_rfl)
  f266:=hT func260 (by kernel_rfl)
  t0:=underlying0
  a0:=isAgg0
  z0:=sizeOf0
  v0:=zeroValue0
  t3:=underlying3
  a3:=isAgg3
  z3:=sizeOf3
  v3:=zeroValue3
  t4:=underlying4
  a4:=isAgg4
  z4:=sizeOf4
  v4:=zeroValue4
  t5:=underlying5
  a5:=isAgg5
  z5:=sizeOf5
  v5:=zeroValue5
  t9:=underlying9
  a9:=isAgg9
  z9:=sizeOf9
  v9:=zeroValue9
  t21:=underlying21
  a21:=isAgg21
  z21:=sizeOf21
  v21:=zeroValue21
  t46:=underlying131
  a46:=isAgg131
  z46:=sizeOf131
  v46:=zeroValue131 }
open Go.RowKit Go.Lib in
theorem Tryz.strings_ContainsRune_ascii (s : ByteArray) (r : Int) (w : World) (h0 : 0 ≤ r) (h1 : r < 128) :
    Calls Tryz.prog 138 #[.string s, .int .i32 r] w fun e w' => e = .returned (.bool (decide (0 ≤ Lib.indexByte s.data.toList r.toNat.toUInt8))) ∧ w' = w:=Any.strings_ContainsRune_ascii Tryz.lays151 s r w h0 h1
def Tryz.lays150_ren : Go.Shelf.Ren:=⟨fun | 150 => 210 | 153 => 255 | 152 => 205 | 226 => 290 | 227 => 74 | 228 => 136 | 137 => 162 | 119 => 251 | 224 => 247 | 225 => 252 | 217 => 221 | 266 => 260 | n => n, fun | 9 => 9 | 4 => 4 | 3 => 3 | 5 => 5 | 21 => 21 | 117 => 140 | 116 => 139 | 0 => 0 | 46 => 131 | 124 => 143 | n => n, fun | n => n⟩
theorem Tryz.lays150 : Go.Proofs.Lays.n150 Tryz.prog Tryz.lays150_ren:={
  mixed:=by kernel_rfl
  f119:=hT func251 (by kernel_rfl)
  f137:=hT func162 (by kernel_rfl)
  f150:=hT func210 (by kernel_rfl)
  f152:=hT func205 (by kernel_rfl)
  f153:=hT func255 (by kernel_rfl)
  f217:=hT func221 (by kernel_rfl)
  f224:=hT func247 (by kernel_rfl)
  f225:=hT func252 (by kernel_rfl)
  f226:=hT func290 (by kernel_rfl)
  f227:=hT func74 (by kernel_rfl)
  f228:=hT func136 (by kernel_rfl)
  f266:=hT func260 (by kernel_rfl)
  t0:=underlying0
  a0:=isAgg0
  z0:=sizeOf0
  v0:=zeroValue0
  t3:=underlying3
  a3:=isAgg3
  z3:=sizeOf3
  v3:=zeroValue3
  t4:=underlying4
  a4:=isAgg4
  z4:=sizeOf4
  v4:=zeroValue4
  t5:=underlying5
  a5:=isAgg5
  z5:=sizeOf5
  v5:=zeroValue5
  t9:=underlying9
  a9:=isAgg9
  z9:=sizeOf9
  v9:=zeroValue9
  t21:=underlying21
  a21:=isAgg21
  z21:=sizeOf21
  v21:=zeroValue21
  t46:=underlying131
  a46:=isAgg131
  z46:=sizeOf131
  v46:=zeroValue131
  t116:=underlying139
  a116:=isAgg139
  z116:=sizeOf139
  t117:=underlying140
  a117:=isAgg140
  z117:=sizeOf140
  v117:=zeroValue140
  t124:=underlying143
  a124:=isAgg143
  z124:=sizeOf143
  v124:=zeroValue143 }
open Go.RowKit Go.Lib in
theorem Tryz.strings_ContainsAny_laid (s chars : ByteArray) (w : World) (hs : s.size < 4294967281) (hcs : chars.size < 4294967281) (has : ∀ (j : Nat) b, s.data.toList[j]? = some b → b.toNat < 128) (hac : ∀ (j : Nat) b, chars.data.toList[j]? = some b → b.toNat < 128) :
    Calls Tryz.prog 210 #[.string s, .string chars] w fun e w' => e = .returned (.bool (Lib.containsAny s.data.toList chars.data.toList)) ∧ Below w.heap.size w w':=Any.strings_ContainsAny_laid Tryz.lays150 (by kernel_rfl) s chars w hs hcs has hac
def Tryz.lays212_ren : Go.Shelf.Ren:=⟨fun | 212 => 130 | 263 => 199 | 264 => 200 | n => n, fun | 46 => 131 | 51 => 280 | 146 => 281 | 53 => 283 | 148 => 284 | n => n, fun | n => n⟩
theorem Tryz.lays212 : Go.Proofs.Lays.n212 Tryz.prog Tryz.lays212_ren:={
  mixed:=by kernel_rfl
  f212:=hT func130 (by kernel_rfl)
  f263:=hT func199 (by kernel_rfl)
  f264:=hT func200 (by kernel_rfl)
  t46:=underlying131
  a46:=isAgg131
  z46:=sizeOf131
  v46:=zeroValue131
  t51:=underlying280
  a51:=isAgg280
  z51:=sizeOf280
  v51:=zeroValue280
  t53:=underlying283
  a53:=isAgg283
  z53:=sizeOf283
  v53:=zeroValue283
  t146:=underlying281
  a146:=isAgg281
  z146:=sizeOf281
  v146:=zeroValue281
  t148:=underlying284
  a148:=isAgg284
  z148:=sizeOf284
  v148:=zeroValue284 }
open Go.RowKit Go.Lib in
theorem Tryz.bits_Mul (x y : Nat) (hx : x < 18446744073709551616) (hy : y < 18446744073709551616) (w : World) :
    Calls Tryz.prog 130 #[.int .u64 x, .int .u64 y] w fun e w' => e = .returned (.tuple #[.int .u64 ((x * y / 18446744073709551616 : Nat) : Int), .int .u64 ((x * y % 18446744073709551616 : Nat) : Int)]) ∧ w' = w:=Any.bits_Mul Tryz.lays212 x y hx hy w
def Tryz.lays105_ren : Go.Shelf.Ren:=⟨fun | 105 => 71 | 212 => 130 | 99 => 131 | 165 => 132 | 166 => 133 | 170 => 134 | 169 => 135 | 263 => 199 | 264 => 200 | 206 => 201 | 240 => 202 | 241 => 203 | 276 => 250 | 277 => 163 | n => n, fun | 9 => 9 | 3 => 3 | 4 => 4 | 20 => 20 | 0 => 0 | 46 => 131 | 109 => 206 | 5 => 5 | 72 => 211 | 76 => 215 | 51 => 280 | 146 => 281 | 53 => 283 | 148 => 284 | 70 => 209 | 37 => 22 | 75 => 214 | 127 => 286 | 164 => 321 | 80 => 69 | n => n, fun | n => n⟩
theorem Tryz.lays105 : Go.Proofs.Lays.n105 Tryz.prog Tryz.lays105_ren:={
  mixed:=by kernel_rfl
  f99:=hT func131 (by kernel_rfl)
  f105:=hT func71 (by kernel_rfl)
  f165:=hT func132 (by kernel_rfl)
  f166:=hT func133 (by kernel_rfl)
  f169:=hT func135 (by kernel_rfl)
  f170:=hT func134 (by kernel_rfl)
  f206:=hT func201 (by kernel_rfl)
  f212:=hT func130 (by kernel_rfl)
  f240:=hT func202 (by kernel_rfl)
  f241:=hT func203 (by kernel_rfl)
  f263:=hT func199 (by kernel_rfl)
  f264:=hT func200 (by kernel_rfl)
  f276:=hT func250 (by kernel_rfl)
  f277:=hT func163 (by kernel_rfl)
  t0:=underlying0
  a0:=isAgg0
  z0:=sizeOf0
  v0:=zeroValue0
  t3:=underlying3
  a3:=isAgg3
  z3:=sizeOf3
  v3:=zeroValue3
  t4:=underlying4
  a4:=isAgg4
  z4:=sizeOf4
  v4:=zeroValue4
  t5:=underlying5
  a5:=isAgg5
  z5:=sizeOf5
  v5:=zeroValue5
  t9:=underlying9
  a9:=isAgg9
  z9:=sizeOf9
  v9:=zeroValue9
  t20:=underlying20
  a20:=isAgg20
  z20:=sizeOf20
  v20:=zeroValue20
  t37:=underlying22
  a37:=isAgg22
  z37:=sizeOf22
  v37:=zeroValue22
  t46:=underlying131
  a46:=isAgg131
  z46:=sizeOf131
  v46:=zeroValue131
  t51:=underlying280
  a51:=isAgg280
  z51:=sizeOf280
  v51:=zeroValue280
  t53:=underlying283
  a53:=isAgg283
  z53:=sizeOf283
  v53:=zeroValue283
  t70:=underlying209
  a70:=isAgg209
  z70:=sizeOf209
  v70:=zeroValue209
  t72:=underlying211
  a72:=isAgg211
  z72:=sizeOf211
  v72:=zeroValue211
  t75:=underlying214
  a75:=isAgg214
  z75:=sizeOf214
  v75:=zeroValue214
  t76:=underlying215
  a76:=isAgg215
  z76:=sizeOf215
  v76:=zeroValue215
  t109:=underlying206
  a109:=isAgg206
  z109:=sizeOf206
  v109:=zeroValue206
  t127:=underlying286
  a127:=isAgg286
  z127:=sizeOf286
  v127:=zeroValue286
  t146:=underlying281
  a146:=isAgg281
  z146:=sizeOf281
  v146:=zeroValue281
  t148:=underlying284
  a148:=isAgg284
  z148:=sizeOf284
  v148:=zeroValue284
  t164:=underlying321
  a164:=isAgg321
  z164:=sizeOf321
  v164:=zeroValue321 }
theorem Tryz.Builder_Extra_105 : Builder.Extra Tryz.prog Tryz.lays105_ren:={
  sizeBuilder:=by kernel_rfl
  liesBuilder:=by kernel_rfl
  t5:=underlying5
  a5:=isAgg5
  z5:=sizeOf5
  v5:=zeroValue5
  infoByte:=by kernel_rfl
  cellsByte:=by kernel_rfl
  sizeByte:=by kernel_rfl
  neB5:=by decide }
open Go.RowKit Go.Lib in
theorem Tryz.strings_Repeat (s : ByteArray) (c : Nat) (w : World) (hc : c ≤ 9223372036854775807) (hlen : s.size * c ≤ 140737488355328) :
    Calls Tryz.prog 71 #[.string s, .int .i64 c] w fun e w' => e = .returned (.string ⟨(Lib.repeatL s.data.toList c).toArray⟩) ∧ Below w.heap.size w w':=Any.strings_Repeat Tryz.lays105 Tryz.Builder_Extra_105 s c w hc hlen
def Tryz.lays185_ren : Go.Shelf.Ren:=⟨fun | 185 => 196 | 187 => 123 | 115 => 45 | 253 => 246 | 224 => 247 | 254 => 248 | 255 => 197 | 291 => 287 | n => n, fun | 37 => 22 | 3 => 3 | 4 => 4 | 0 => 0 | 5 => 5 | 46 => 131 | 9 => 9 | 146 => 281 | 51 => 280 | n => n, fun | 1 => 2 | n => n⟩
theorem Tryz.lays185 : Go.Proofs.Lays.n185 Tryz.prog Tryz.lays185_ren:={
  mixed:=by kernel_rfl
  f115:=hT func45 (by kernel_rfl)
  f185:=hT func196 (by kernel_rfl)
  f187:=hT func123 (by kernel_rfl)
  f224:=hT func247 (by kernel_rfl)
  f253:=hT func246 (by kernel_rfl)
  f254:=hT func248 (by kernel_rfl)
  f255:=hT func197 (by kernel_rfl)
  f291:=hT func287 (by kernel_rfl)
  t0:=underlying0
  a0:=isAgg0
  z0:=sizeOf0
  v0:=zeroValue0
  t3:=underlying3
  a3:=isAgg3
  z3:=sizeOf3
  v3:=zeroValue3
  t4:=underlying4
  a4:=isAgg4
  z4:=sizeOf4
  v4:=zeroValue4
  t5:=underlying5
  a5:=isAgg5
  z5:=sizeOf5
  v5:=zeroValue5
  t9:=underlying9
  a9:=isAgg9
  z9:=sizeOf9
  v9:=zeroValue9
  t37:=underlying22
  a37:=isAgg22
  z37:=sizeOf22
  v37:=zeroValue22
  t46:=underlying131
  a46:=isAgg131
  z46:=sizeOf131
  v46:=zeroValue131
  t51:=underlying280
  a51:=isAgg280
  z51:=sizeOf280
  v51:=zeroValue280
  t146:=underlying281
  a146:=isAgg281
  z146:=sizeOf281
  v146:=zeroValue281
  g1:=by kernel_rfl }
open Go.RowKit Go.Lib in
theorem Tryz.bytes_Index_one (b o n c b2 o2 d : Nat) (xs : List Int) (cv : Int) (w : World) (hx : xs.length = n) (hc : ∀ i, i < n → w.cell? ⟨b, o + i, none⟩ = some (.int .u8 (xs.getD i 0))) (hc2 : w.cell? ⟨b2, o2, none⟩ = some (.int .u8 cv)) :
    Calls Tryz.prog 196 #[.slice (some ⟨b, o, none⟩) n c, .slice (some ⟨b2, o2, none⟩) 1 d] w fun e w' => e = .returned (.int .i64 (Lib.indexByte (Lib.bytesOf xs) cv.toNat.toUInt8)) ∧ w' = w:=Any.bytes_Index_one Tryz.lays185 b o n c b2 o2 d xs cv w hx hc hc2
open Go.RowKit Go.Lib in
theorem Tryz.bytes_Index_none (p q : Option Addr) (n c d : Nat) (w : World) :
    Calls Tryz.prog 196 #[.slice p n c, .slice q 0 d] w fun e w' => e = .returned (.int .i64 0) ∧ w' = w:=Any.bytes_Index_none Tryz.lays185 p q n c d w
open Go.RowKit Go.Lib in
theorem Tryz.bytes_Index_longer (p q : Option Addr) (n c m d : Nat) (w : World) (h2 : 2 ≤ m) (hnm : n < m) (hm : m ≤ 9223372036854775807) :
    Calls Tryz.prog 196 #[.slice p n c, .slice q m d] w fun e w' => e = .returned (.int .i64 (-1)) ∧ w' = w:=Any.bytes_Index_longer Tryz.lays185 p q n c m d w h2 hnm hm
open Go.RowKit Go.Lib in
theorem Tryz.bytes_Index_same (b o c b2 o2 d n : Nat) (xs ys : List Int) (w : World) (h2 : 2 ≤ n) (hm : n ≤ 9223372036854775807) (hx : xs.length = n) (hy : ys.length = n) (hc : ∀ i, i < n → w.cell? ⟨b, o + i, none⟩ = some (.int .u8 (xs.getD i 0))) (hc2 : ∀ i, i < n → w.cell? ⟨b2, o2 + i, none⟩ = some (.int .u8 (ys.getD i 0))) :
    Calls Tryz.prog 196 #[.slice (some ⟨b, o, none⟩) n c, .slice (some ⟨b2, o2, none⟩) n d] w fun e w' => e = .returned (.int .i64 (if Lib.bytesOf ys == Lib.bytesOf xs then 0 else -1)) ∧ w' = w:=Any.bytes_Index_same Tryz.lays185 b o c b2 o2 d n xs ys w h2 hm hx hy hc hc2
def Tryz.lays187_ren : Go.Shelf.Ren:=⟨fun | 187 => 123 | 255 => 197 | n => n, fun | 37 => 22 | 5 => 5 | 3 => 3 | n => n, fun | n => n⟩
theorem Tryz.lays187 : Go.Proofs.Lays.n187 Tryz.prog Tryz.lays187_ren:={
  mixed:=by kernel_rfl
  f187:=hT func123 (by kernel_rfl)
  f255:=hT func197 (by kernel_rfl)
  t3:=underlying3
  a3:=isAgg3
  z3:=sizeOf3
  v3:=zeroValue3
  t5:=underlying5
  a5:=isAgg5
  z5:=sizeOf5
  v5:=zeroValue5
  t37:=underlying22
  a37:=isAgg22
  z37:=sizeOf22
  v37:=zeroValue22 }
theorem Tryz.bytes_IndexByte (b o n c : Nat) (xs : List Int) (cv : Int) (w : World) (hx : xs.length = n) (hc : ∀ i, i < n → w.cell? ⟨b, o + i, none⟩ = some (.int .u8 (xs.getD i 0))) :
    Calls Tryz.prog 123 #[.slice (some ⟨b, o, none⟩) n c, .int .u8 cv] w fun e w' => e = .returned (.int .i64 (Lib.indexByte (Lib.bytesOf xs) cv.toNat.toUInt8)) ∧ w' = w:=Any.bytes_IndexByte Tryz.lays187 b o n c xs cv w hx hc
end Go.Proofs
