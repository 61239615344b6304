/-
  Contracts of the library functions that the law reaches.
-/
import Derived.Shelf.Strings.Builder1
import Derived.Shelf.Strings.Builder2
import Derived.Shelf.Strings.Trim
import Derived.Shelf.Small.Utf8
import Derived.Shelf.Small.Strs
import Derived.Shelf.Small.Wraps
import Derived.Shelf.Strings.BuilderF
import Derived.Shelf.Strings.BuilderK
import Derived.Shelf.Strings.BuilderRune
import Derived.Shelf.Strings.Builder2Cap
import Derived.Shelf.Strconv.Atoi
import Derived.Shelf.Strconv.Itoa0
import Derived.Shelf.Strconv.Itoa1
import Derived.Shelf.LaysM
import Derived.Shelf.Strconv.Itoa2
import Derived.Shelf.Strconv.Itoa3
import Derived.Shelf.Strconv.Itoa4
import Derived.Shelf.Strings.Search1
import Derived.Shelf.Strings.Search2
import Derived.Shelf.Strings.Search3
import Derived.Shelf.Strings.Cut
import Derived.Shelf.Strings.Count
import Derived.Shelf.Strings.Shaped
import Derived.Shelf.Strings.Prefix
import Derived.Shelf.Strings.Runes
import Derived.Shelf.Strings.IndexAny
import Derived.Shelf.Strings.AsciiSet
import Derived.Shelf.Strings.IndexAnyAll
import Derived.Shelf.Bits.Mul64
import Derived.Shelf.Strings.Repeat
import Derived.Shelf.Unicode.DecodeSlow
import Derived.Shelf.Unicode.DecodeAny
import Derived.Shelf.Strings.MapAny
import Derived.Shelf.Strings.BuilderCap
import Derived.Shelf.Strings.MapGrows
import Derived.Shelf.Bytes.SlSearch0
import Derived.Shelf.Bytes.SlEqualAll
import Derived.Shelf.Bytes.Small
import Derived.Test.YthajckhlgoonbaaGreatDoorProg
namespace Go.Proofs
open Go.Shelf
def Tryz.lays161_ren : Go.Shelf.Ren:=⟨fun | 161 => 109 | 231 => 153 | 227 => 154 | 233 => 155 | 235 => 156 | 228 => 201 | 197 => 162 | 151 => 115 | 260 => 204 | 152 => 167 | 137 => 147 | 119 => 206 | 224 => 194 | 225 => 193 | 217 => 192 | 266 => 214 | n => n, fun | 9 => 9 | 4 => 4 | 3 => 3 | 5 => 5 | 117 => 236 | 116 => 235 | 0 => 0 | 124 => 239 | 105 => 240 | 21 => 21 | 119 => 279 | 46 => 114 | 139 => 282 | 138 => 281 | n => n, fun | 3 => 5 | 4 => 6 | n => n⟩
theorem Tryz.lays161 : Go.Proofs.Lays.n161 Tryz.prog Tryz.lays161_ren:={
  mixed:=by kernel_rfl
  f119:=Tryz.func206.trans (congrArg some (by kernel_rfl))
  f137:=Tryz.func147.trans (congrArg some (by kernel_rfl))
  f151:=Tryz.func115.trans (congrArg some (by kernel_rfl))
  f152:=Tryz.func167.trans (congrArg some (by kernel_rfl))
  f161:=Tryz.func109.trans (congrArg some (by kernel_rfl))
  f197:=Tryz.func162.trans (congrArg some (by kernel_rfl))
  f217:=Tryz.func192.trans (congrArg some (by kernel_rfl))
  f224:=Tryz.func194.trans (congrArg some (by kernel_rfl))
  f225:=Tryz.func193.trans (congrArg some (by kernel_rfl))
  f227:=Tryz.func154.trans (congrArg some (by kernel_rfl))
  f228:=Tryz.func201.trans (congrArg some (by kernel_rfl))
  f231:=Tryz.func153.trans (congrArg some (by kernel_rfl))
  f233:=Tryz.func155.trans (congrArg some (by kernel_rfl))
  f235:=Tryz.func156.trans (congrArg some (by kernel_rfl))
  f260:=Tryz.func204.trans (congrArg some (by kernel_rfl))
  f266:=Tryz.func214.trans (congrArg some (by kernel_rfl))
  t0:=Tryz.underlying0
  a0:=Tryz.isAgg0
  z0:=Tryz.sizeOf0
  v0:=Tryz.zeroValue0
  t3:=Tryz.underlying3
  a3:=Tryz.isAgg3
  z3:=Tryz.sizeOf3
  v3:=Tryz.zeroValue3
  t4:=Tryz.underlying4
  a4:=Tryz.isAgg4
  z4:=Tryz.sizeOf4
  v4:=Tryz.zeroValue4
  t5:=Tryz.underlying5
  a5:=Tryz.isAgg5
  z5:=Tryz.sizeOf5
  v5:=Tryz.zeroValue5
  t9:=Tryz.underlying9
  a9:=Tryz.isAgg9
  z9:=Tryz.sizeOf9
  v9:=Tryz.zeroValue9
  t21:=Tryz.underlying21
  a21:=Tryz.isAgg21
  z21:=Tryz.sizeOf21
  v21:=Tryz.zeroValue21
  t46:=Tryz.underlying114
  a46:=Tryz.isAgg114
  z46:=Tryz.sizeOf114
  v46:=Tryz.zeroValue114
  t105:=Tryz.underlying240
  a105:=Tryz.isAgg240
  z105:=Tryz.sizeOf240
  v105:=Tryz.zeroValue240
  t116:=Tryz.underlying235
  a116:=Tryz.isAgg235
  z116:=Tryz.sizeOf235
  t117:=Tryz.underlying236
  a117:=Tryz.isAgg236
  z117:=Tryz.sizeOf236
  v117:=Tryz.zeroValue236
  t119:=Tryz.underlying279
  a119:=Tryz.isAgg279
  z119:=Tryz.sizeOf279
  t124:=Tryz.underlying239
  a124:=Tryz.isAgg239
  z124:=Tryz.sizeOf239
  v124:=Tryz.zeroValue239
  t138:=Tryz.underlying281
  a138:=Tryz.isAgg281
  z138:=Tryz.sizeOf281
  v138:=Tryz.zeroValue281
  t139:=Tryz.underlying282
  a139:=Tryz.isAgg282
  z139:=Tryz.sizeOf282
  v139:=Tryz.zeroValue282
  g3:=by kernel_rfl
  g4:=by kernel_rfl }
def Tryz.lays162_ren : Go.Shelf.Ren:=⟨fun | 162 => 111 | 232 => 158 | 227 => 154 | 234 => 159 | 236 => 160 | 228 => 201 | 271 => 203 | 151 => 115 | 120 => 221 | 197 => 162 | 152 => 167 | 260 => 204 | 137 => 147 | 119 => 206 | 224 => 194 | 225 => 193 | 217 => 192 | 266 => 214 | n => n, fun | 9 => 9 | 4 => 4 | 3 => 3 | 5 => 5 | 117 => 236 | 116 => 235 | 0 => 0 | 124 => 239 | 21 => 21 | 105 => 240 | 46 => 114 | 119 => 279 | 139 => 282 | 138 => 281 | n => n, fun | 3 => 5 | 4 => 6 | n => n⟩
theorem Tryz.lays162 : Go.Proofs.Lays.n162 Tryz.prog Tryz.lays162_ren:={
  mixed:=by kernel_rfl
  f119:=Tryz.func206.trans (congrArg some (by kernel_rfl))
  f120:=Tryz.func221.trans (congrArg some (by kernel_rfl))
  f137:=Tryz.func147.trans (congrArg some (by kernel_rfl))
  f151:=Tryz.func115.trans (congrArg some (by kernel_rfl))
  f152:=Tryz.func167.trans (congrArg some (by kernel_rfl))
  f162:=Tryz.func111.trans (congrArg some (by kernel_rfl))
  f197:=Tryz.func162.trans (congrArg some (by kernel_rfl))
  f217:=Tryz.func192.trans (congrArg some (by kernel_rfl))
  f224:=Tryz.func194.trans (congrArg some (by kernel_rfl))
  f225:=Tryz.func193.trans (congrArg some (by kernel_rfl))
  f227:=Tryz.func154.trans (congrArg some (by kernel_rfl))
  f228:=Tryz.func201.trans (congrArg some (by kernel_rfl))
  f232:=Tryz.func158.trans (congrArg some (by kernel_rfl))
  f234:=Tryz.func159.trans (congrArg some (by kernel_rfl))
  f236:=Tryz.func160.trans (congrArg some (by kernel_rfl))
  f260:=Tryz.func204.trans (congrArg some (by kernel_rfl))
  f266:=Tryz.func214.trans (congrArg some (by kernel_rfl))
  f271:=Tryz.func203.trans (congrArg some (by kernel_rfl))
  t0:=Tryz.underlying0
  a0:=Tryz.isAgg0
  z0:=Tryz.sizeOf0
  v0:=Tryz.zeroValue0
  t3:=Tryz.underlying3
  a3:=Tryz.isAgg3
  z3:=Tryz.sizeOf3
  v3:=Tryz.zeroValue3
  t4:=Tryz.underlying4
  a4:=Tryz.isAgg4
  z4:=Tryz.sizeOf4
  v4:=Tryz.zeroValue4
  t5:=Tryz.underlying5
  a5:=Tryz.isAgg5
  z5:=Tryz.sizeOf5
  v5:=Tryz.zeroValue5
  t9:=Tryz.underlying9
  a9:=Tryz.isAgg9
  z9:=Tryz.sizeOf9
  v9:=Tryz.zeroValue9
  t21:=Tryz.underlying21
  a21:=Tryz.isAgg21
  z21:=Tryz.sizeOf21
  v21:=Tryz.zeroValue21
  t46:=Tryz.underlying114
  a46:=Tryz.isAgg114
  z46:=Tryz.sizeOf114
  v46:=Tryz.zeroValue114
  t105:=Tryz.underlying240
  a105:=Tryz.isAgg240
  z105:=Tryz.sizeOf240
  v105:=Tryz.zeroValue240
  t116:=Tryz.underlying235
  a116:=Tryz.isAgg235
  z116:=Tryz.sizeOf235
  t117:=Tryz.underlying236
  a117:=Tryz.isAgg236
  z117:=Tryz.sizeOf236
  v117:=Tryz.zeroValue236
  t119:=Tryz.underlying279
  a119:=Tryz.isAgg279
  z119:=Tryz.sizeOf279
  t124:=Tryz.underlying239
  a124:=Tryz.isAgg239
  z124:=Tryz.sizeOf239
  v124:=Tryz.zeroValue239
  t138:=Tryz.underlying281
  a138:=Tryz.isAgg281
  z138:=Tryz.sizeOf281
  v138:=Tryz.zeroValue281
  t139:=Tryz.underlying282
  a139:=Tryz.isAgg282
  z139:=Tryz.sizeOf282
  v139:=Tryz.zeroValue282
  g3:=by kernel_rfl
  g4:=by kernel_rfl }
def Tryz.lays160_ren : Go.Shelf.Ren:=⟨fun | 160 => 120 | 232 => 158 | 231 => 153 | 227 => 154 | 234 => 159 | 233 => 155 | 236 => 160 | 235 => 156 | 228 => 201 | 271 => 203 | 151 => 115 | 197 => 162 | 120 => 221 | 152 => 167 | 260 => 204 | 137 => 147 | 119 => 206 | 224 => 194 | 225 => 193 | 217 => 192 | 266 => 214 | n => n, fun | 9 => 9 | 4 => 4 | 3 => 3 | 5 => 5 | 117 => 236 | 116 => 235 | 0 => 0 | 124 => 239 | 21 => 21 | 105 => 240 | 46 => 114 | 119 => 279 | 139 => 282 | 138 => 281 | n => n, fun | 3 => 5 | 4 => 6 | n => n⟩
theorem Tryz.lays160 : Go.Proofs.Lays.n160 Tryz.prog Tryz.lays160_ren:={
  mixed:=by kernel_rfl
  f119:=Tryz.func206.trans (congrArg some (by kernel_rfl))
  f120:=Tryz.func221.trans (congrArg some (by kernel_rfl))
  f137:=Tryz.func147.trans (congrArg some (by kernel_rfl))
  f151:=Tryz.func115.trans (congrArg some (by kernel_rfl))
  f152:=Tryz.func167.trans (congrArg some (by kernel_rfl))
  f160:=Tryz.func120.trans (congrArg some (by kernel_rfl))
  f197:=Tryz.func162.trans (congrArg some (by kernel_rfl))
  f217:=Tryz.func192.trans (congrArg some (by kernel_rfl))
  f224:=Tryz.func194.trans (congrArg some (by kernel_rfl))
  f225:=Tryz.func193.trans (congrArg some (by kernel_rfl))
  f227:=Tryz.func154.trans (congrArg some (by kernel_rfl))
  f228:=Tryz.func201.trans (congrArg some (by kernel_rfl))
  f231:=Tryz.func153.trans (congrArg some (by kernel_rfl))
  f232:=Tryz.func158.trans (congrArg some (by kernel_rfl))
  f233:=Tryz.func155.trans (congrArg some (by kernel_rfl))
  f234:=Tryz.func159.trans (congrArg some (by kernel_rfl))
  f235:=Tryz.func156.trans (congrArg some (by kernel_rfl))
  f236:=Tryz.func160.trans (congrArg some (by kernel_rfl))
  f260:=Tryz.func204.trans (congrArg some (by kernel_rfl))
  f266:=Tryz.func214.trans (congrArg some (by kernel_rfl))
  f271:=Tryz.func203.trans (congrArg some (by kernel_rfl))
  t0:=Tryz.underlying0
  a0:=Tryz.isAgg0
  z0:=Tryz.sizeOf0
  v0:=Tryz.zeroValue0
  t3:=Tryz.underlying3
  a3:=Tryz.isAgg3
  z3:=Tryz.sizeOf3
  v3:=Tryz.zeroValue3
  t4:=Tryz.underlying4
  a4:=Tryz.isAgg4
  z4:=Tryz.sizeOf4
  v4:=Tryz.zeroValue4
  t5:=Tryz.underlying5
  a5:=Tryz.isAgg5
  z5:=Tryz.sizeOf5
  v5:=Tryz.zeroValue5
  t9:=Tryz.underlying9
  a9:=Tryz.isAgg9
  z9:=Tryz.sizeOf9
  v9:=Tryz.zeroValue9
  t21:=Tryz.underlying21
  a21:=Tryz.isAgg21
  z21:=Tryz.sizeOf21
  v21:=Tryz.zeroValue21
  t46:=Tryz.underlying114
  a46:=Tryz.isAgg114
  z46:=Tryz.sizeOf114
  v46:=Tryz.zeroValue114
  t105:=Tryz.underlying240
  a105:=Tryz.isAgg240
  z105:=Tryz.sizeOf240
  v105:=Tryz.zeroValue240
  t116:=Tryz.underlying235
  a116:=Tryz.isAgg235
  z116:=Tryz.sizeOf235
  t117:=Tryz.underlying236
  a117:=Tryz.isAgg236
  z117:=Tryz.sizeOf236
  v117:=Tryz.zeroValue236
  t119:=Tryz.underlying279
  a119:=Tryz.isAgg279
  z119:=Tryz.sizeOf279
  t124:=Tryz.underlying239
  a124:=Tryz.isAgg239
  z124:=Tryz.sizeOf239
  v124:=Tryz.zeroValue239
  t138:=Tryz.underlying281
  a138:=Tryz.isAgg281
  z138:=Tryz.sizeOf281
  v138:=Tryz.zeroValue281
  t139:=Tryz.underlying282
  a139:=Tryz.isAgg282
  z139:=Tryz.sizeOf282
  v139:=Tryz.zeroValue282
  g3:=by kernel_rfl
  g4:=by kernel_rfl }
def Tryz.lays118_ren : Go.Shelf.Ren:=⟨fun | 118 => 163 | n => n, fun | 21 => 21 | 3 => 3 | 4 => 4 | n => n, fun | n => n⟩
theorem Tryz.lays118 : Go.Proofs.Lays.n118 Tryz.prog Tryz.lays118_ren:={
  mixed:=by kernel_rfl
  f118:=Tryz.func163.trans (congrArg some (by kernel_rfl))
  t3:=Tryz.underlying3
  a3:=Tryz.isAgg3
  z3:=Tryz.sizeOf3
  v3:=Tryz.zeroValue3
  t4:=Tryz.underlying4
  a4:=Tryz.isAgg4
  z4:=Tryz.sizeOf4
  v4:=Tryz.zeroValue4
  t21:=Tryz.underlying21
  a21:=Tryz.isAgg21
  z21:=Tryz.sizeOf21
  v21:=Tryz.zeroValue21 }
theorem Tryz.utf8_RuneLen (r : Int) (w : World) :
    Calls Tryz.prog 163 #[.int .i32 r] w fun e w' => e = .returned (.int .i64 (Lib.runeLen r)) ∧ w' = w:=Any.utf8_RuneLen Tryz.lays118 r w
def Tryz.lays137_ren : Go.Shelf.Ren:=⟨fun | 137 => 147 | 217 => 192 | 266 => 214 | n => n, fun | 9 => 9 | 5 => 5 | 3 => 3 | n => n, fun | n => n⟩
theorem Tryz.lays137 : Go.Proofs.Lays.n137 Tryz.prog Tryz.lays137_ren:={
  mixed:=by kernel_rfl
  f137:=Tryz.func147.trans (congrArg some (by kernel_rfl))
  f217:=Tryz.func192.trans (congrArg some (by kernel_rfl))
  f266:=Tryz.func214.trans (congrArg some (by kernel_rfl))
  t3:=Tryz.underlying3
  a3:=Tryz.isAgg3
  z3:=Tryz.sizeOf3
  v3:=Tryz.zeroValue3
  t5:=Tryz.underlying5
  a5:=Tryz.isAgg5
  z5:=Tryz.sizeOf5
  v5:=Tryz.zeroValue5
  t9:=Tryz.underlying9
  a9:=Tryz.isAgg9
  z9:=Tryz.sizeOf9
  v9:=Tryz.zeroValue9 }
open Go.RowKit in
theorem Tryz.strings_IndexByte (s : ByteArray) (c : Int) (w : World) :
    Calls Tryz.prog 147 #[.string s, .int .u8 c] w fun e w' => e = .returned (.int .i64 (Lib.indexByte s.data.toList c.toNat.toUInt8)) ∧ w' = w:=Any.strings_IndexByte Tryz.lays137 s c w
def Tryz.lays103_ren : Go.Shelf.Ren:=⟨fun | 103 => 91 | 210 => 139 | 206 => 179 | n => n, fun | 9 => 9 | 4 => 4 | 24 => 167 | 3 => 3 | n => n, fun | n => n⟩
theorem Tryz.lays103 : Go.Proofs.Lays.n103 Tryz.prog Tryz.lays103_ren:={
  mixed:=by kernel_rfl
  f103:=Tryz.func91.trans (congrArg some (by kernel_rfl))
  f206:=Tryz.func179.trans (congrArg some (by kernel_rfl))
  f210:=Tryz.func139.trans (congrArg some (by kernel_rfl))
  t3:=Tryz.underlying3
  a3:=Tryz.isAgg3
  z3:=Tryz.sizeOf3
  v3:=Tryz.zeroValue3
  t4:=Tryz.underlying4
  a4:=Tryz.isAgg4
  z4:=Tryz.sizeOf4
  v4:=Tryz.zeroValue4
  t9:=Tryz.underlying9
  a9:=Tryz.isAgg9
  z9:=Tryz.sizeOf9
  v9:=Tryz.zeroValue9
  t24:=Tryz.underlying167
  a24:=Tryz.isAgg167
  z24:=Tryz.sizeOf167
  v24:=Tryz.zeroValue167 }
open Go.RowKit in
theorem Tryz.strings_CutPrefix (s p : ByteArray) (w : World) :
    Calls Tryz.prog 91 #[.string s, .string p] w fun e w' => e = .returned (.tuple #[.string ⟨(Lib.trimPrefix s.data.toList p.data.toList).toArray⟩, .bool (Lib.hasPrefix s.data.toList p.data.toList)]) ∧ w' = w:=Any.strings_CutPrefix Tryz.lays103 s p w
def Tryz.lays104_ren : Go.Shelf.Ren:=⟨fun | 104 => 112 | 211 => 161 | 207 => 202 | n => n, fun | 9 => 9 | 4 => 4 | 24 => 167 | 3 => 3 | n => n, fun | n => n⟩
theorem Tryz.lays104 : Go.Proofs.Lays.n104 Tryz.prog Tryz.lays104_ren:={
  mixed:=by kernel_rfl
  f104:=Tryz.func112.trans (congrArg some (by kernel_rfl))
  f207:=Tryz.func202.trans (congrArg some (by kernel_rfl))
  f211:=Tryz.func161.trans (congrArg some (by kernel_rfl))
  t3:=Tryz.underlying3
  a3:=Tryz.isAgg3
  z3:=Tryz.sizeOf3
  v3:=Tryz.zeroValue3
  t4:=Tryz.underlying4
  a4:=Tryz.isAgg4
  z4:=Tryz.sizeOf4
  v4:=Tryz.zeroValue4
  t9:=Tryz.underlying9
  a9:=Tryz.isAgg9
  z9:=Tryz.sizeOf9
  v9:=Tryz.zeroValue9
  t24:=Tryz.underlying167
  a24:=Tryz.isAgg167
  z24:=Tryz.sizeOf167
  v24:=Tryz.zeroValue167 }
open Go.RowKit in
theorem Tryz.strings_CutSuffix (s p : ByteArray) (w : World) (hs : s.size ≤ 9223372036854775807) :
    Calls Tryz.prog 112 #[.string s, .string p] w fun e w' => e = .returned (.tuple #[.string ⟨(Lib.trimSuffix s.data.toList p.data.toList).toArray⟩, .bool (Lib.hasSuffix s.data.toList p.data.toList)]) ∧ w' = w:=Any.strings_CutSuffix Tryz.lays104 s p w hs
def Tryz.lays172_ren : Go.Shelf.Ren:=⟨fun | 172 => 145 | 244 => 196 | 245 => 197 | 247 => 216 | 279 => 217 | 280 => 218 | 281 => 219 | 282 => 220 | 287 => 226 | 316 => 227 | 171 => 229 | 205 => 228 | 321 => 230 | 322 => 231 | 243 => 232 | 246 => 140 | 283 => 180 | 284 => 181 | 285 => 182 | 286 => 183 | 129 => 209 | 317 => 208 | 318 => 210 | 319 => 211 | 320 => 212 | 337 => 224 | 338 => 225 | n => n, fun | 9 => 9 | 3 => 3 | 75 => 189 | 76 => 190 | 4 => 4 | 5 => 5 | 167 => 273 | 37 => 24 | 0 => 0 | 85 => 274 | 2 => 2 | 168 => 276 | 53 => 223 | 175 => 284 | 46 => 114 | 210 => 288 | 127 => 232 | 145 => 295 | 143 => 293 | 21 => 21 | 171 => 254 | 173 => 257 | 212 => 269 | 51 => 220 | 20 => 20 | 213 => 270 | 232 => 290 | 233 => 291 | 80 => 116 | n => n, fun | 15 => 7 | 16 => 8 | 17 => 4 | 18 => 9 | 19 => 10 | n => n⟩
theorem Tryz.lays172 : Go.Proofs.Lays.n172 Tryz.prog Tryz.lays172_ren:={
  mixed:=by kernel_rfl
  f129:=Tryz.func209.trans (congrArg some (by kernel_rfl))
  f171:=Tryz.func229.trans (congrArg some (by kernel_rfl))
  f172:=Tryz.func145.trans (congrArg some (by kernel_rfl))
  f205:=Tryz.func228.trans (congrArg some (by kernel_rfl))
  f243:=Tryz.func232.trans (congrArg some (by kernel_rfl))
  f244:=Tryz.func196.trans (congrArg some (by kernel_rfl))
  f245:=Tryz.func197.trans (congrArg some (by kernel_rfl))
  f246:=Tryz.func140.trans (congrArg some (by kernel_rfl))
  f247:=Tryz.func216.trans (congrArg some (by kernel_rfl))
  f279:=Tryz.func217.trans (congrArg some (by kernel_rfl))
  f280:=Tryz.func218.trans (congrArg some (by kernel_rfl))
  f281:=Tryz.func219.trans (congrArg some (by kernel_rfl))
  f282:=Tryz.func220.trans (congrArg some (by kernel_rfl))
  f283:=Tryz.func180.trans (congrArg some (by kernel_rfl))
  f284:=Tryz.func181.trans (congrArg some (by kernel_rfl))
  f285:=Tryz.func182.trans (congrArg some (by kernel_rfl))
  f286:=Tryz.func183.trans (congrArg some (by kernel_rfl))
  f287:=Tryz.func226.trans (congrArg some (by kernel_rfl))
  f316:=Tryz.func227.trans (congrArg some (by kernel_rfl))
  f317:=Tryz.func208.trans (congrArg some (by kernel_rfl))
  f318:=Tryz.func210.trans (congrArg some (by kernel_rfl))
  f319:=Tryz.func211.trans (congrArg some (by kernel_rfl))
  f320:=Tryz.func212.trans (congrArg some (by kernel_rfl))
  f321:=Tryz.func230.trans (congrArg some (by kernel_rfl))
  f322:=Tryz.func231.trans (congrArg some (by kernel_rfl))
  f337:=Tryz.func224.trans (congrArg some (by kernel_rfl))
  f338:=Tryz.func225.trans (congrArg some (by kernel_rfl))
  t0:=Tryz.underlying0
  a0:=Tryz.isAgg0
  z0:=Tryz.sizeOf0
  v0:=Tryz.zeroValue0
  t2:=Tryz.underlying2
  a2:=Tryz.isAgg2
  z2:=Tryz.sizeOf2
  v2:=Tryz.zeroValue2
  t3:=Tryz.underlying3
  a3:=Tryz.isAgg3
  z3:=Tryz.sizeOf3
  v3:=Tryz.zeroValue3
  t4:=Tryz.underlying4
  a4:=Tryz.isAgg4
  z4:=Tryz.sizeOf4
  v4:=Tryz.zeroValue4
  t5:=Tryz.underlying5
  a5:=Tryz.isAgg5
  z5:=Tryz.sizeOf5
  v5:=Tryz.zeroValue5
  t9:=Tryz.underlying9
  a9:=Tryz.isAgg9
  z9:=Tryz.sizeOf9
  v9:=Tryz.zeroValue9
  t20:=Tryz.underlying20
  a20:=Tryz.isAgg20
  z20:=Tryz.sizeOf20
  v20:=Tryz.zeroValue20
  t21:=Tryz.underlying21
  a21:=Tryz.isAgg21
  z21:=Tryz.sizeOf21
  v21:=Tryz.zeroValue21
  t37:=Tryz.underlying24
  a37:=Tryz.isAgg24
  z37:=Tryz.sizeOf24
  v37:=Tryz.zeroValue24
  t46:=Tryz.underlying114
  a46:=Tryz.isAgg114
  z46:=Tryz.sizeOf114
  v46:=Tryz.zeroValue114
  t51:=Tryz.underlying220
  a51:=Tryz.isAgg220
  z51:=Tryz.sizeOf220
  v51:=Tryz.zeroValue220
  t53:=Tryz.underlying223
  a53:=Tryz.isAgg223
  z53:=Tryz.sizeOf223
  v53:=Tryz.zeroValue223
  t75:=Tryz.underlying189
  a75:=Tryz.isAgg189
  z75:=Tryz.sizeOf189
  v75:=Tryz.zeroValue189
  t76:=Tryz.underlying190
  a76:=Tryz.isAgg190
  z76:=Tryz.sizeOf190
  v76:=Tryz.zeroValue190
  t85:=Tryz.underlying274
  a85:=Tryz.isAgg274
  z85:=Tryz.sizeOf274
  v85:=Tryz.zeroValue274
  t127:=Tryz.underlying232
  a127:=Tryz.isAgg232
  z127:=Tryz.sizeOf232
  v127:=Tryz.zeroValue232
  t143:=Tryz.underlying293
  a143:=Tryz.isAgg293
  z143:=Tryz.sizeOf293
  v143:=Tryz.zeroValue293
  t145:=Tryz.underlying295
  a145:=Tryz.isAgg295
  z145:=Tryz.sizeOf295
  v145:=Tryz.zeroValue295
  t167:=Tryz.underlying273
  a167:=Tryz.isAgg273
  z167:=Tryz.sizeOf273
  v167:=Tryz.zeroValue273
  t168:=Tryz.underlying276
  a168:=Tryz.isAgg276
  z168:=Tryz.sizeOf276
  v168:=Tryz.zeroValue276
  t171:=Tryz.underlying254
  a171:=Tryz.isAgg254
  z171:=Tryz.sizeOf254
  v171:=Tryz.zeroValue254
  t173:=Tryz.underlying257
  a173:=Tryz.isAgg257
  z173:=Tryz.sizeOf257
  v173:=Tryz.zeroValue257
  t175:=Tryz.underlying284
  a175:=Tryz.isAgg284
  z175:=Tryz.sizeOf284
  v175:=Tryz.zeroValue284
  t210:=Tryz.underlying288
  a210:=Tryz.isAgg288
  z210:=Tryz.sizeOf288
  v210:=Tryz.zeroValue288
  t212:=Tryz.underlying269
  a212:=Tryz.isAgg269
  z212:=Tryz.sizeOf269
  v212:=Tryz.zeroValue269
  t213:=Tryz.underlying270
  a213:=Tryz.isAgg270
  z213:=Tryz.sizeOf270
  t232:=Tryz.underlying290
  a232:=Tryz.isAgg290
  z232:=Tryz.sizeOf290
  v232:=Tryz.zeroValue290
  t233:=Tryz.underlying291
  a233:=Tryz.isAgg291
  z233:=Tryz.sizeOf291
  v233:=Tryz.zeroValue291
  g15:=by kernel_rfl
  g16:=by kernel_rfl
  g17:=by kernel_rfl
  g18:=by kernel_rfl
  g19:=by kernel_rfl }
open Go.RowKit in
theorem Tryz.strconv_Atoi (s : ByteArray) (n : Int) (hl : s.size ≤ 18) (h : Lib.atoi s.data.toList = some n) (w : World) :
    Calls Tryz.prog 145 #[.string s] w fun e w' => e = .returned (.tuple #[.int .i64 n, .nilIface]) ∧ ∃ t, w' = Lib.bytesWorld w 5 t:=Any.strconv_Atoi Tryz.lays172 s n hl h w
def Tryz.laysM173_ren : Go.Shelf.Ren:=⟨fun | 173 => 92 | 246 => 140 | 283 => 180 | 284 => 181 | 285 => 182 | 286 => 183 | 129 => 209 | 317 => 208 | 318 => 210 | 319 => 211 | 320 => 212 | 337 => 224 | 338 => 225 | n => n, fun | 2 => 2 | 3 => 3 | 9 => 9 | 4 => 4 | 171 => 254 | 0 => 0 | 53 => 223 | 37 => 24 | 5 => 5 | 173 => 257 | 212 => 269 | 51 => 220 | 20 => 20 | 213 => 270 | 46 => 114 | 232 => 290 | 233 => 291 | n => n, fun | 17 => 4 | 18 => 9 | 19 => 10 | n => n⟩
theorem Tryz.laysM173 : Go.Proofs.LaysM.n173 Tryz.prog Tryz.laysM173_ren:={
  mixed:=by kernel_rfl
  f129:=Tryz.func209.trans (congrArg some (by kernel_rfl))
  f173:=Tryz.func92.trans (congrArg some (by kernel_rfl))
  f246:=Tryz.func140.trans (congrArg some (by kernel_rfl))
  f283:=Tryz.func180.trans (congrArg some (by kernel_rfl))
  f284:=Tryz.func181.trans (congrArg some (by kernel_rfl))
  f285:=Tryz.func182.trans (congrArg some (by kernel_rfl))
  f286:=Tryz.func183.trans (congrArg some (by kernel_rfl))
  f317:=Tryz.func208.trans (congrArg some (by kernel_rfl))
  f318:=Tryz.func210.trans (congrArg some (by kernel_rfl))
  f319:=Tryz.func211.trans (congrArg some (by kernel_rfl))
  f320:=Tryz.func212.trans (congrArg some (by kernel_rfl))
  f337:=Tryz.func224.trans (congrArg some (by kernel_rfl))
  f338:=Tryz.func225.trans (congrArg some (by kernel_rfl))
  t0:=Tryz.underlying0
  a0:=Tryz.isAgg0
  z0:=Tryz.sizeOf0
  v0:=Tryz.zeroValue0
  t2:=Tryz.underlying2
  a2:=Tryz.isAgg2
  z2:=Tryz.sizeOf2
  v2:=Tryz.zeroValue2
  t3:=Tryz.underlying3
  a3:=Tryz.isAgg3
  z3:=Tryz.sizeOf3
  v3:=Tryz.zeroValue3
  t4:=Tryz.underlying4
  a4:=Tryz.isAgg4
  z4:=Tryz.sizeOf4
  v4:=Tryz.zeroValue4
  t5:=Tryz.underlying5
  a5:=Tryz.isAgg5
  z5:=Tryz.sizeOf5
  v5:=Tryz.zeroValue5
  t9:=Tryz.underlying9
  a9:=Tryz.isAgg9
  z9:=Tryz.sizeOf9
  v9:=Tryz.zeroValue9
  t20:=Tryz.underlying20
  a20:=Tryz.isAgg20
  z20:=Tryz.sizeOf20
  v20:=Tryz.zeroValue20
  t37:=Tryz.underlying24
  a37:=Tryz.isAgg24
  z37:=Tryz.sizeOf24
  v37:=Tryz.zeroValue24
  t46:=Tryz.underlying114
  a46:=Tryz.isAgg114
  z46:=Tryz.sizeOf114
  v46:=Tryz.zeroValue114
  t51:=Tryz.underlying220
  a51:=Tryz.isAgg220
  z51:=Tryz.sizeOf220
  v51:=Tryz.zeroValue220
  t53:=Tryz.underlying223
  a53:=Tryz.isAgg223
  z53:=Tryz.sizeOf223
  v53:=Tryz.zeroValue223
  t171:=Tryz.underlying254
  a171:=Tryz.isAgg254
  z171:=Tryz.sizeOf254
  v171:=Tryz.zeroValue254
  t173:=Tryz.underlying257
  a173:=Tryz.isAgg257
  z173:=Tryz.sizeOf257
  v173:=Tryz.zeroValue257
  t212:=Tryz.underlying269
  a212:=Tryz.isAgg269
  z212:=Tryz.sizeOf269
  v212:=Tryz.zeroValue269
  t213:=Tryz.underlying270
  a213:=Tryz.isAgg270
  z213:=Tryz.sizeOf270
  t232:=Tryz.underlying290
  a232:=Tryz.isAgg290
  z232:=Tryz.sizeOf290
  v232:=Tryz.zeroValue290
  t233:=Tryz.underlying291
  a233:=Tryz.isAgg291
  z233:=Tryz.sizeOf291
  v233:=Tryz.zeroValue291
  g17:=by kernel_rfl
  g18:=by kernel_rfl
  g19:=by kernel_rfl
  i0:=by kernel_rfl
  i2:=by kernel_rfl
  i3:=by kernel_rfl
  i4:=by kernel_rfl
  i5:=by kernel_rfl
  i9:=by kernel_rfl
  i20:=by kernel_rfl
  i37:=by kernel_rfl
  i46:=by kernel_rfl
  i51:=by kernel_rfl
  i53:=by kernel_rfl
  i171:=by kernel_rfl
  i173:=by kernel_rfl
  i212:=by kernel_rfl
  i232:=by kernel_rfl
  i233:=by kernel_rfl
  m17:=by kernel_rfl
  m18:=by kernel_rfl
  m19:=by kernel_rfl }
open Go.RowKit Go.Sort Go.Lib in
theorem Tryz.strconv_FormatInt_10 (n : Int) (h0 : -9223372036854775808 ≤ n) (h1 : n ≤ 9223372036854775807) (w : World) (htab : Lib.TabIs Tryz.prog w "internal/strconv.uint64pow10" .u64 Lib.pow10Tab) :
    Calls Tryz.prog 92 #[.int .i64 n, .int .i64 10] w fun e w' => e = .returned (.string ⟨(Lib.itoa n).toArray⟩) ∧ ∃ k os, w' = grow (w.drewN k) os:=Any.strconv_FormatInt_10 Tryz.laysM173 n h0 h1 w htab
def Tryz.lays144_ren : Go.Shelf.Ren:=⟨fun | 144 => 223 | 143 => 99 | 219 => 143 | 217 => 192 | 225 => 193 | 224 => 194 | 267 => 195 | 266 => 214 | 314 => 215 | n => n, fun | 9 => 9 | 4 => 4 | 3 => 3 | 5 => 5 | 46 => 114 | 146 => 221 | 51 => 220 | n => n, fun | 1 => 1 | n => n⟩
theorem Tryz.lays144 : Go.Proofs.Lays.n144 Tryz.prog Tryz.lays144_ren:={
  mixed:=by kernel_rfl
  f143:=Tryz.func99.trans (congrArg some (by kernel_rfl))
  f144:=Tryz.func223.trans (congrArg some (by kernel_rfl))
  f217:=Tryz.func192.trans (congrArg some (by kernel_rfl))
  f219:=Tryz.func143.trans (congrArg some (by kernel_rfl))
  f224:=Tryz.func194.trans (congrArg some (by kernel_rfl))
  f225:=Tryz.func193.trans (congrArg some (by kernel_rfl))
  f266:=Tryz.func214.trans (congrArg some (by kernel_rfl))
  f267:=Tryz.func195.trans (congrArg some (by kernel_rfl))
  f314:=Tryz.func215.trans (congrArg some (by kernel_rfl))
  t3:=Tryz.underlying3
  a3:=Tryz.isAgg3
  z3:=Tryz.sizeOf3
  v3:=Tryz.zeroValue3
  t4:=Tryz.underlying4
  a4:=Tryz.isAgg4
  z4:=Tryz.sizeOf4
  v4:=Tryz.zeroValue4
  t5:=Tryz.underlying5
  a5:=Tryz.isAgg5
  z5:=Tryz.sizeOf5
  v5:=Tryz.zeroValue5
  t9:=Tryz.underlying9
  a9:=Tryz.isAgg9
  z9:=Tryz.sizeOf9
  v9:=Tryz.zeroValue9
  t46:=Tryz.underlying114
  a46:=Tryz.isAgg114
  z46:=Tryz.sizeOf114
  v46:=Tryz.zeroValue114
  t51:=Tryz.underlying220
  a51:=Tryz.isAgg220
  z51:=Tryz.sizeOf220
  v51:=Tryz.zeroValue220
  t146:=Tryz.underlying221
  a146:=Tryz.isAgg221
  z146:=Tryz.sizeOf221
  v146:=Tryz.zeroValue221
  g1:=by kernel_rfl }
open Go.RowKit Go.Lib in
theorem Tryz.strings_Contains_one (s : ByteArray) (c : UInt8) (w : World) :
    Calls Tryz.prog 223 #[.string s, .string ⟨#[c]⟩] w fun e w' => e = .returned (.bool (decide (0 ≤ Lib.indexByte s.data.toList c))) ∧ w' = w:=Any.strings_Contains_one Tryz.lays144 s c w
def Tryz.lays145_ren : Go.Shelf.Ren:=⟨fun | 145 => 107 | 220 => 152 | 219 => 143 | 217 => 192 | 225 => 193 | 224 => 194 | 267 => 195 | 266 => 214 | 314 => 215 | n => n, fun | 9 => 9 | 4 => 4 | 59 => 194 | 3 => 3 | 5 => 5 | 46 => 114 | 146 => 221 | 51 => 220 | n => n, fun | 1 => 1 | n => n⟩
theorem Tryz.lays145 : Go.Proofs.Lays.n145 Tryz.prog Tryz.lays145_ren:={
  mixed:=by kernel_rfl
  f145:=Tryz.func107.trans (congrArg some (by kernel_rfl))
  f217:=Tryz.func192.trans (congrArg some (by kernel_rfl))
  f219:=Tryz.func143.trans (congrArg some (by kernel_rfl))
  f220:=Tryz.func152.trans (congrArg some (by kernel_rfl))
  f224:=Tryz.func194.trans (congrArg some (by kernel_rfl))
  f225:=Tryz.func193.trans (congrArg some (by kernel_rfl))
  f266:=Tryz.func214.trans (congrArg some (by kernel_rfl))
  f267:=Tryz.func195.trans (congrArg some (by kernel_rfl))
  f314:=Tryz.func215.trans (congrArg some (by kernel_rfl))
  t3:=Tryz.underlying3
  a3:=Tryz.isAgg3
  z3:=Tryz.sizeOf3
  v3:=Tryz.zeroValue3
  t4:=Tryz.underlying4
  a4:=Tryz.isAgg4
  z4:=Tryz.sizeOf4
  v4:=Tryz.zeroValue4
  t5:=Tryz.underlying5
  a5:=Tryz.isAgg5
  z5:=Tryz.sizeOf5
  v5:=Tryz.zeroValue5
  t9:=Tryz.underlying9
  a9:=Tryz.isAgg9
  z9:=Tryz.sizeOf9
  v9:=Tryz.zeroValue9
  t46:=Tryz.underlying114
  a46:=Tryz.isAgg114
  z46:=Tryz.sizeOf114
  v46:=Tryz.zeroValue114
  t51:=Tryz.underlying220
  a51:=Tryz.isAgg220
  z51:=Tryz.sizeOf220
  v51:=Tryz.zeroValue220
  t59:=Tryz.underlying194
  a59:=Tryz.isAgg194
  z59:=Tryz.sizeOf194
  v59:=Tryz.zeroValue194
  t146:=Tryz.underlying221
  a146:=Tryz.isAgg221
  z146:=Tryz.sizeOf221
  v146:=Tryz.zeroValue221
  g1:=by kernel_rfl }
open Go.RowKit Go.Lib in
theorem Tryz.strings_Cut (s sep : ByteArray) (m : Int) (w : World) (hs : s.size < 4294967281) (hm : w.cell? ⟨1, 0, none⟩ = some (.int .i64 m)) :
    Calls Tryz.prog 107 #[.string s, .string sep] w fun e w' => e = .returned (.tuple #[.string ⟨(Lib.cut s.data.toList sep.data.toList).1.toArray⟩, .string ⟨(Lib.cut s.data.toList sep.data.toList).2.1.toArray⟩, .bool (Lib.cut s.data.toList sep.data.toList).2.2]) ∧ ∃ n, w' = w.drewN n:=Any.strings_Cut Tryz.lays145 s sep m w hs hm
def Tryz.lays138_ren : Go.Shelf.Ren:=⟨fun | 138 => 59 | 195 => 97 | 218 => 98 | 143 => 99 | 219 => 143 | 217 => 192 | 225 => 193 | 224 => 194 | 267 => 195 | 266 => 214 | 314 => 215 | n => n, fun | 9 => 9 | 3 => 3 | 4 => 4 | 5 => 5 | 0 => 0 | 46 => 114 | 146 => 221 | 51 => 220 | n => n, fun | 1 => 1 | n => n⟩
theorem Tryz.lays138 : Go.Proofs.Lays.n138 Tryz.prog Tryz.lays138_ren:={
  mixed:=by kernel_rfl
  f138:=Tryz.func59.trans (congrArg some (by kernel_rfl))
  f143:=Tryz.func99.trans (congrArg some (by kernel_rfl))
  f195:=Tryz.func97.trans (congrArg some (by kernel_rfl))
  f217:=Tryz.func192.trans (congrArg some (by kernel_rfl))
  f218:=Tryz.func98.trans (congrArg some (by kernel_rfl))
  f219:=Tryz.func143.trans (congrArg some (by kernel_rfl))
  f224:=Tryz.func194.trans (congrArg some (by kernel_rfl))
  f225:=Tryz.func193.trans (congrArg some (by kernel_rfl))
  f266:=Tryz.func214.trans (congrArg some (by kernel_rfl))
  f267:=Tryz.func195.trans (congrArg some (by kernel_rfl))
  f314:=Tryz.func215.trans (congrArg some (by kernel_rfl))
  t0:=Tryz.underlying0
  a0:=Tryz.isAgg0
  z0:=Tryz.sizeOf0
  v0:=Tryz.zeroValue0
  t3:=Tryz.underlying3
  a3:=Tryz.isAgg3
  z3:=Tryz.sizeOf3
  v3:=Tryz.zeroValue3
  t4:=Tryz.underlying4
  a4:=Tryz.isAgg4
  z4:=Tryz.sizeOf4
  v4:=Tryz.zeroValue4
  t5:=Tryz.underlying5
  a5:=Tryz.isAgg5
  z5:=Tryz.sizeOf5
  v5:=Tryz.zeroValue5
  t9:=Tryz.underlying9
  a9:=Tryz.isAgg9
  z9:=Tryz.sizeOf9
  v9:=Tryz.zeroValue9
  t46:=Tryz.underlying114
  a46:=Tryz.isAgg114
  z46:=Tryz.sizeOf114
  v46:=Tryz.zeroValue114
  t51:=Tryz.underlying220
  a51:=Tryz.isAgg220
  z51:=Tryz.sizeOf220
  v51:=Tryz.zeroValue220
  t146:=Tryz.underlying221
  a146:=Tryz.isAgg221
  z146:=Tryz.sizeOf221
  v146:=Tryz.zeroValue221
  g1:=by kernel_rfl }
open Go.RowKit Go.Lib in
theorem Tryz.strings_Count_one (s : ByteArray) (c : UInt8) (w : World) :
    Calls Tryz.prog 59 #[.string s, .string ⟨#[c]⟩] w fun e w' => e = .returned (.int .i64 (Lib.countByte s.data.toList c)) ∧ w' = w:=Any.strings_Count_one Tryz.lays138 s c w
def Tryz.lays99_ren : Go.Shelf.Ren:=⟨fun | 99 => 144 | 206 => 179 | n => n, fun | 9 => 9 | 4 => 4 | 3 => 3 | n => n, fun | n => n⟩
theorem Tryz.lays99 : Go.Proofs.Lays.n99 Tryz.prog Tryz.lays99_ren:={
  mixed:=by kernel_rfl
  f99:=Tryz.func144.trans (congrArg some (by kernel_rfl))
  f206:=Tryz.func179.trans (congrArg some (by kernel_rfl))
  t3:=Tryz.underlying3
  a3:=Tryz.isAgg3
  z3:=Tryz.sizeOf3
  v3:=Tryz.zeroValue3
  t4:=Tryz.underlying4
  a4:=Tryz.isAgg4
  z4:=Tryz.sizeOf4
  v4:=Tryz.zeroValue4
  t9:=Tryz.underlying9
  a9:=Tryz.isAgg9
  z9:=Tryz.sizeOf9
  v9:=Tryz.zeroValue9 }
open Go.RowKit Go.Lib in
theorem Tryz.strings_HasPrefix (s p : ByteArray) (w : World) :
    Calls Tryz.prog 144 #[.string s, .string p] w fun e w' => e = .returned (.bool (Lib.hasPrefix s.data.toList p.data.toList)) ∧ w' = w:=Any.strings_HasPrefix Tryz.lays99 s p w
def Tryz.lays100_ren : Go.Shelf.Ren:=⟨fun | 100 => 170 | 207 => 202 | n => n, fun | 9 => 9 | 4 => 4 | 3 => 3 | n => n, fun | n => n⟩
theorem Tryz.lays100 : Go.Proofs.Lays.n100 Tryz.prog Tryz.lays100_ren:={
  mixed:=by kernel_rfl
  f100:=Tryz.func170.trans (congrArg some (by kernel_rfl))
  f207:=Tryz.func202.trans (congrArg some (by kernel_rfl))
  t3:=Tryz.underlying3
  a3:=Tryz.isAgg3
  z3:=Tryz.sizeOf3
  v3:=Tryz.zeroValue3
  t4:=Tryz.underlying4
  a4:=Tryz.isAgg4
  z4:=Tryz.sizeOf4
  v4:=Tryz.zeroValue4
  t9:=Tryz.underlying9
  a9:=Tryz.isAgg9
  z9:=Tryz.sizeOf9
  v9:=Tryz.zeroValue9 }
open Go.RowKit Go.Lib in
theorem Tryz.strings_HasSuffix (s p : ByteArray) (w : World) (hs : s.size ≤ 9223372036854775807) :
    Calls Tryz.prog 170 #[.string s, .string p] w fun e w' => e = .returned (.bool (Lib.hasSuffix s.data.toList p.data.toList)) ∧ w' = w:=Any.strings_HasSuffix Tryz.lays100 s p w hs
def Tryz.lays101_ren : Go.Shelf.Ren:=⟨fun | 101 => 133 | 208 => 174 | 206 => 179 | n => n, fun | 9 => 9 | 4 => 4 | 3 => 3 | n => n, fun | n => n⟩
theorem Tryz.lays101 : Go.Proofs.Lays.n101 Tryz.prog Tryz.lays101_ren:={
  mixed:=by kernel_rfl
  f101:=Tryz.func133.trans (congrArg some (by kernel_rfl))
  f206:=Tryz.func179.trans (congrArg some (by kernel_rfl))
  f208:=Tryz.func174.trans (congrArg some (by kernel_rfl))
  t3:=Tryz.underlying3
  a3:=Tryz.isAgg3
  z3:=Tryz.sizeOf3
  v3:=Tryz.zeroValue3
  t4:=Tryz.underlying4
  a4:=Tryz.isAgg4
  z4:=Tryz.sizeOf4
  v4:=Tryz.zeroValue4
  t9:=Tryz.underlying9
  a9:=Tryz.isAgg9
  z9:=Tryz.sizeOf9
  v9:=Tryz.zeroValue9 }
open Go.RowKit Go.Lib in
theorem Tryz.strings_TrimPrefix (s p : ByteArray) (w : World) :
    Calls Tryz.prog 133 #[.string s, .string p] w fun e w' => e = .returned (.string ⟨(Lib.trimPrefix s.data.toList p.data.toList).toArray⟩) ∧ w' = w:=Any.strings_TrimPrefix Tryz.lays101 s p w
def Tryz.lays102_ren : Go.Shelf.Ren:=⟨fun | 102 => 110 | 209 => 157 | 207 => 202 | n => n, fun | 9 => 9 | 4 => 4 | 3 => 3 | n => n, fun | n => n⟩
theorem Tryz.lays102 : Go.Proofs.Lays.n102 Tryz.prog Tryz.lays102_ren:={
  mixed:=by kernel_rfl
  f102:=Tryz.func110.trans (congrArg some (by kernel_rfl))
  f207:=Tryz.func202.trans (congrArg some (by kernel_rfl))
  f209:=Tryz.func157.trans (congrArg some (by kernel_rfl))
  t3:=Tryz.underlying3
  a3:=Tryz.isAgg3
  z3:=Tryz.sizeOf3
  v3:=Tryz.zeroValue3
  t4:=Tryz.underlying4
  a4:=Tryz.isAgg4
  z4:=Tryz.sizeOf4
  v4:=Tryz.zeroValue4
  t9:=Tryz.underlying9
  a9:=Tryz.isAgg9
  z9:=Tryz.sizeOf9
  v9:=Tryz.zeroValue9 }
open Go.RowKit Go.Lib in
theorem Tryz.strings_TrimSuffix (s p : ByteArray) (w : World) (hs : s.size ≤ 9223372036854775807) :
    Calls Tryz.prog 110 #[.string s, .string p] w fun e w' => e = .returned (.string ⟨(Lib.trimSuffix s.data.toList p.data.toList).toArray⟩) ∧ w' = w:=Any.strings_TrimSuffix Tryz.lays102 s p w hs
def Tryz.lays151_ren : Go.Shelf.Ren:=⟨fun | 151 => 115 | 152 => 167 | 137 => 147 | 119 => 206 | 224 => 194 | 225 => 193 | 217 => 192 | 266 => 214 | n => n, fun | 9 => 9 | 21 => 21 | 4 => 4 | 3 => 3 | 5 => 5 | 0 => 0 | 46 => 114 | n => n, fun | n => n⟩
theorem Tryz.lays151 : Go.Proofs.Lays.n151 Tryz.prog Tryz.lays151_ren:={
  mixed:=by kernel_rfl
  f119:=Tryz.func206.trans (congrArg some (by kernel_rfl))
  f137:=Tryz.func147.trans (congrArg some (by kernel_rfl))
  f151:=Tryz.func115.trans (congrArg some (by kernel_rfl))
  f152:=Tryz.func167.trans (congrArg some (by kernel_rfl))
  f217:=Tryz.func192.trans (congrArg some (by kernel_rfl))
  f224:=Tryz.func194.trans (congrArg some (by kernel_rfl))
  f225:=Tryz.func193.trans (congrArg some (by kernel_rfl))
  f266:=Tryz.func214.trans (congrArg some (by kernel_rfl))
  t0:=Tryz.underlying0
  a0:=Tryz.isAgg0
  z0:=Tryz.sizeOf0
  v0:=Tryz.zeroValue0
  t3:=Tryz.underlying3
  a3:=Tryz.isAgg3
  z3:=Tryz.sizeOf3
  v3:=Tryz.zeroValue3
  t4:=Tryz.underlying4
  a4:=Tryz.isAgg4
  z4:=Tryz.sizeOf4
  v4:=Tryz.zeroValue4
  t5:=Tryz.underlying5
  a5:=Tryz.isAgg5
  z5:=Tryz.sizeOf5
  v5:=Tryz.zeroValue5
  t9:=Tryz.underlying9
  a9:=Tryz.isAgg9
  z9:=Tryz.sizeOf9
  v9:=Tryz.zeroValue9
  t21:=Tryz.underlying21
  a21:=Tryz.isAgg21
  z21:=Tryz.sizeOf21
  v21:=Tryz.zeroValue21
  t46:=Tryz.underlying114
  a46:=Tryz.isAgg114
  z46:=Tryz.sizeOf114
  v46:=Tryz.zeroValue114 }
open Go.RowKit Go.Lib in
theorem Tryz.strings_ContainsRune_ascii (s : ByteArray) (r : Int) (w : World) (h0 : 0 ≤ r) (h1 : r < 128) :
    Calls Tryz.prog 115 #[.string s, .int .i32 r] w fun e w' => e = .returned (.bool (decide (0 ≤ Lib.indexByte s.data.toList r.toNat.toUInt8))) ∧ w' = w:=Any.strings_ContainsRune_ascii Tryz.lays151 s r w h0 h1
def Tryz.lays150_ren : Go.Shelf.Ren:=⟨fun | 150 => 106 | 153 => 151 | 152 => 167 | 226 => 200 | 227 => 154 | 228 => 201 | 137 => 147 | 119 => 206 | 224 => 194 | 225 => 193 | 217 => 192 | 266 => 214 | n => n, fun | 9 => 9 | 4 => 4 | 3 => 3 | 5 => 5 | 21 => 21 | 117 => 236 | 116 => 235 | 0 => 0 | 46 => 114 | 124 => 239 | n => n, fun | n => n⟩
theorem Tryz.lays150 : Go.Proofs.Lays.n150 Tryz.prog Tryz.lays150_ren:={
  mixed:=by kernel_rfl
  f119:=Tryz.func206.trans (congrArg some (by kernel_rfl))
  f137:=Tryz.func147.trans (congrArg some (by kernel_rfl))
  f150:=Tryz.func106.trans (congrArg some (by kernel_rfl))
  f152:=Tryz.func167.trans (congrArg some (by kernel_rfl))
  f153:=Tryz.func151.trans (congrArg some (by kernel_rfl))
  f217:=Tryz.func192.trans (congrArg some (by kernel_rfl))
  f224:=Tryz.func194.trans (congrArg some (by kernel_rfl))
  f225:=Tryz.func193.trans (congrArg some (by kernel_rfl))
  f226:=Tryz.func200.trans (congrArg some (by kernel_rfl))
  f227:=Tryz.func154.trans (congrArg some (by kernel_rfl))
  f228:=Tryz.func201.trans (congrArg some (by kernel_rfl))
  f266:=Tryz.func214.trans (congrArg some (by kernel_rfl))
  t0:=Tryz.underlying0
  a0:=Tryz.isAgg0
  z0:=Tryz.sizeOf0
  v0:=Tryz.zeroValue0
  t3:=Tryz.underlying3
  a3:=Tryz.isAgg3
  z3:=Tryz.sizeOf3
  v3:=Tryz.zeroValue3
  t4:=Tryz.underlying4
  a4:=Tryz.isAgg4
  z4:=Tryz.sizeOf4
  v4:=Tryz.zeroValue4
  t5:=Tryz.underlying5
  a5:=Tryz.isAgg5
  z5:=Tryz.sizeOf5
  v5:=Tryz.zeroValue5
  t9:=Tryz.underlying9
  a9:=Tryz.isAgg9
  z9:=Tryz.sizeOf9
  v9:=Tryz.zeroValue9
  t21:=Tryz.underlying21
  a21:=Tryz.isAgg21
  z21:=Tryz.sizeOf21
  v21:=Tryz.zeroValue21
  t46:=Tryz.underlying114
  a46:=Tryz.isAgg114
  z46:=Tryz.sizeOf114
  v46:=Tryz.zeroValue114
  t116:=Tryz.underlying235
  a116:=Tryz.isAgg235
  z116:=Tryz.sizeOf235
  t117:=Tryz.underlying236
  a117:=Tryz.isAgg236
  z117:=Tryz.sizeOf236
  v117:=Tryz.zeroValue236
  t124:=Tryz.underlying239
  a124:=Tryz.isAgg239
  z124:=Tryz.sizeOf239
  v124:=Tryz.zeroValue239 }
open Go.RowKit Go.Lib in
theorem Tryz.strings_ContainsAny_laid (s chars : ByteArray) (w : World) (hs : s.size < 4294967281) (hcs : chars.size < 4294967281) (has : ∀ (j : Nat) b, s.data.toList[j]? = some b → b.toNat < 128) (hac : ∀ (j : Nat) b, chars.data.toList[j]? = some b → b.toNat < 128) :
    Calls Tryz.prog 106 #[.string s, .string chars] w fun e w' => e = .returned (.bool (Lib.containsAny s.data.toList chars.data.toList)) ∧ Below w.heap.size w w':=Any.strings_ContainsAny_laid Tryz.lays150 (by kernel_rfl) s chars w hs hcs has hac
def Tryz.lays212_ren : Go.Shelf.Ren:=⟨fun | 212 => 89 | 263 => 137 | 264 => 138 | n => n, fun | 46 => 114 | 51 => 220 | 146 => 221 | 53 => 223 | 148 => 224 | n => n, fun | n => n⟩
theorem Tryz.lays212 : Go.Proofs.Lays.n212 Tryz.prog Tryz.lays212_ren:={
  mixed:=by kernel_rfl
  f212:=Tryz.func89.trans (congrArg some (by kernel_rfl))
  f263:=Tryz.func137.trans (congrArg some (by kernel_rfl))
  f264:=Tryz.func138.trans (congrArg some (by kernel_rfl))
  t46:=Tryz.underlying114
  a46:=Tryz.isAgg114
  z46:=Tryz.sizeOf114
  v46:=Tryz.zeroValue114
  t51:=Tryz.underlying220
  a51:=Tryz.isAgg220
  z51:=Tryz.sizeOf220
  v51:=Tryz.zeroValue220
  t53:=Tryz.underlying223
  a53:=Tryz.isAgg223
  z53:=Tryz.sizeOf223
  v53:=Tryz.zeroValue223
  t146:=Tryz.underlying221
  a146:=Tryz.isAgg221
  z146:=Tryz.sizeOf221
  v146:=Tryz.zeroValue221
  t148:=Tryz.underlying224
  a148:=Tryz.isAgg224
  z148:=Tryz.sizeOf224
  v148:=Tryz.zeroValue224 }
open Go.RowKit Go.Lib in
theorem Tryz.bits_Mul (x y : Nat) (hx : x < 18446744073709551616) (hy : y < 18446744073709551616) (w : World) :
    Calls Tryz.prog 89 #[.int .u64 x, .int .u64 y] w fun e w' => e = .returned (.tuple #[.int .u64 ((x * y / 18446744073709551616 : Nat) : Int), .int .u64 ((x * y % 18446744073709551616 : Nat) : Int)]) ∧ w' = w:=Any.bits_Mul Tryz.lays212 x y hx hy w
def Tryz.lays105_ren : Go.Shelf.Ren:=⟨fun | 105 => 103 | 212 => 89 | 99 => 144 | 165 => 149 | 166 => 102 | 170 => 150 | 169 => 104 | 263 => 137 | 264 => 138 | 206 => 179 | 240 => 148 | 241 => 199 | 276 => 198 | 277 => 90 | n => n, fun | 9 => 9 | 3 => 3 | 4 => 4 | 20 => 20 | 0 => 0 | 46 => 114 | 109 => 165 | 5 => 5 | 72 => 183 | 76 => 190 | 51 => 220 | 146 => 221 | 53 => 223 | 148 => 224 | 70 => 181 | 37 => 24 | 75 => 189 | 127 => 232 | 164 => 263 | 80 => 116 | n => n, fun | n => n⟩
theorem Tryz.lays105 : Go.Proofs.Lays.n105 Tryz.prog Tryz.lays105_ren:={
  mixed:=by kernel_rfl
  f99:=Tryz.func144.trans (congrArg some (by kernel_rfl))
  f105:=Tryz.func103.trans (congrArg some (by kernel_rfl))
  f165:=Tryz.func149.trans (congrArg some (by kernel_rfl))
  f166:=Tryz.func102.trans (congrArg some (by kernel_rfl))
  f169:=Tryz.func104.trans (congrArg some (by kernel_rfl))
  f170:=Tryz.func150.trans (congrArg some (by kernel_rfl))
  f206:=Tryz.func179.trans (congrArg some (by kernel_rfl))
  f212:=Tryz.func89.trans (congrArg some (by kernel_rfl))
  f240:=Tryz.func148.trans (congrArg some (by kernel_rfl))
  f241:=Tryz.func199.trans (congrArg some (by kernel_rfl))
  f263:=Tryz.func137.trans (congrArg some (by kernel_rfl))
  f264:=Tryz.func138.trans (congrArg some (by kernel_rfl))
  f276:=Tryz.func198.trans (congrArg some (by kernel_rfl))
  f277:=Tryz.func90.trans (congrArg some (by kernel_rfl))
  t0:=Tryz.underlying0
  a0:=Tryz.isAgg0
  z0:=Tryz.sizeOf0
  v0:=Tryz.zeroValue0
  t3:=Tryz.underlying3
  a3:=Tryz.isAgg3
  z3:=Tryz.sizeOf3
  v3:=Tryz.zeroValue3
  t4:=Tryz.underlying4
  a4:=Tryz.isAgg4
  z4:=Tryz.sizeOf4
  v4:=Tryz.zeroValue4
  t5:=Tryz.underlying5
  a5:=Tryz.isAgg5
  z5:=Tryz.sizeOf5
  v5:=Tryz.zeroValue5
  t9:=Tryz.underlying9
  a9:=Tryz.isAgg9
  z9:=Tryz.sizeOf9
  v9:=Tryz.zeroValue9
  t20:=Tryz.underlying20
  a20:=Tryz.isAgg20
  z20:=Tryz.sizeOf20
  v20:=Tryz.zeroValue20
  t37:=Tryz.underlying24
  a37:=Tryz.isAgg24
  z37:=Tryz.sizeOf24
  v37:=Tryz.zeroValue24
  t46:=Tryz.underlying114
  a46:=Tryz.isAgg114
  z46:=Tryz.sizeOf114
  v46:=Tryz.zeroValue114
  t51:=Tryz.underlying220
  a51:=Tryz.isAgg220
  z51:=Tryz.sizeOf220
  v51:=Tryz.zeroValue220
  t53:=Tryz.underlying223
  a53:=Tryz.isAgg223
  z53:=Tryz.sizeOf223
  v53:=Tryz.zeroValue223
  t70:=Tryz.underlying181
  a70:=Tryz.isAgg181
  z70:=Tryz.sizeOf181
  v70:=Tryz.zeroValue181
  t72:=Tryz.underlying183
  a72:=Tryz.isAgg183
  z72:=Tryz.sizeOf183
  v72:=Tryz.zeroValue183
  t75:=Tryz.underlying189
  a75:=Tryz.isAgg189
  z75:=Tryz.sizeOf189
  v75:=Tryz.zeroValue189
  t76:=Tryz.underlying190
  a76:=Tryz.isAgg190
  z76:=Tryz.sizeOf190
  v76:=Tryz.zeroValue190
  t109:=Tryz.underlying165
  a109:=Tryz.isAgg165
  z109:=Tryz.sizeOf165
  v109:=Tryz.zeroValue165
  t127:=Tryz.underlying232
  a127:=Tryz.isAgg232
  z127:=Tryz.sizeOf232
  v127:=Tryz.zeroValue232
  t146:=Tryz.underlying221
  a146:=Tryz.isAgg221
  z146:=Tryz.sizeOf221
  v146:=Tryz.zeroValue221
  t148:=Tryz.underlying224
  a148:=Tryz.isAgg224
  z148:=Tryz.sizeOf224
  v148:=Tryz.zeroValue224
  t164:=Tryz.underlying263
  a164:=Tryz.isAgg263
  z164:=Tryz.sizeOf263
  v164:=Tryz.zeroValue263 }
theorem Tryz.Builder_Extra_105 : Builder.Extra Tryz.prog Tryz.lays105_ren:={
  sizeBuilder:=by kernel_rfl
  liesBuilder:=by kernel_rfl
  t5:=Tryz.underlying5
  a5:=Tryz.isAgg5
  z5:=Tryz.sizeOf5
  v5:=Tryz.zeroValue5
  infoByte:=by kernel_rfl
  cellsByte:=by kernel_rfl
  sizeByte:=by kernel_rfl
  neB5:=by decide }
open Go.RowKit Go.Lib in
theorem Tryz.strings_Repeat (s : ByteArray) (c : Nat) (w : World) (hc : c ≤ 9223372036854775807) (hlen : s.size * c ≤ 140737488355328) :
    Calls Tryz.prog 103 #[.string s, .int .i64 c] w fun e w' => e = .returned (.string ⟨(Lib.repeatL s.data.toList c).toArray⟩) ∧ Below w.heap.size w w':=Any.strings_Repeat Tryz.lays105 Tryz.Builder_Extra_105 s c w hc hlen
end Go.Proofs
