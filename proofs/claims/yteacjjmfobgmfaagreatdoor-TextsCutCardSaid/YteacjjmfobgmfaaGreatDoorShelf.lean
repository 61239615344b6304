/-
  Contracts of the library functions that the law reaches.
-/
import Derived.Shelf.Strings.Builder1
import Derived.Shelf.Strings.Builder2
import Derived.Shelf.Strings.Trim
import Derived.Shelf.Small.Utf8
import Derived.Shelf.Small.Strs
import Derived.Shelf.Small.Wraps
import Derived.Shelf.Strings.BuilderF
import Derived.Shelf.Strings.BuilderK
import Derived.Shelf.Strings.BuilderRune
import Derived.Shelf.Strings.Builder2Cap
import Derived.Shelf.Strconv.Atoi
import Derived.Shelf.Strconv.Itoa0
import Derived.Shelf.Strconv.Itoa1
import Derived.Shelf.LaysM
import Derived.Shelf.Strconv.Itoa2
import Derived.Shelf.Strconv.Itoa3
import Derived.Shelf.Strconv.Itoa4
import Derived.Shelf.Strings.Search1
import Derived.Shelf.Strings.Search2
import Derived.Shelf.Strings.Search3
import Derived.Shelf.Strings.Cut
import Derived.Shelf.Strings.Count
import Derived.Shelf.Strings.Shaped
import Derived.Shelf.GgClosure.StringsIndexFunc
import Derived.Shelf.Strings.Prefix
import Derived.Shelf.Strings.Fields
import Derived.Shelf.Strings.Runes
import Derived.Shelf.Strings.IndexAny
import Derived.Shelf.Strings.AsciiSet
import Derived.Shelf.Strings.IndexAnyAll
import Derived.Shelf.Bits.Mul64
import Derived.Shelf.Strings.Repeat
import Derived.Shelf.Unicode.DecodeSlow
import Derived.Shelf.Unicode.DecodeAny
import Derived.Shelf.Strings.MapAny
import Derived.Shelf.Strings.BuilderCap
import Derived.Shelf.Strings.MapGrows
import Derived.Shelf.Bytes.SlIndexSmall
import Derived.Shelf.Bytes.SlIndexAt
import Derived.Shelf.Bytes.SlSearch0
import Derived.Shelf.Bytes.SlSearch1
import Derived.Shelf.Bytes.SlSearch2
import Derived.Shelf.Bytes.SlIndexWhole
import Derived.Shelf.Bytes.SlSmallAll
import Derived.Shelf.Bytes.SlEqualAll
import Derived.Shelf.Bytes.Small
import Derived.Shelf.Bytes.IndexByte
import Derived.Test.YteacjjmfobgmfaaGreatDoorProg
namespace Go.Proofs
open Go.Shelf
def Tryz.lays161_ren : Go.Shelf.Ren:=⟨fun | 161 => 132 | 231 => 185 | 227 => 186 | 233 => 187 | 235 => 188 | 228 => 258 | 197 => 259 | 151 => 228 | 260 => 294 | 152 => 282 | 137 => 262 | 119 => 303 | 224 => 112 | 225 => 299 | 217 => 296 | 266 => 306 | n => n, fun | 9 => 9 | 4 => 4 | 3 => 3 | 5 => 5 | 117 => 281 | 116 => 280 | 0 => 0 | 124 => 284 | 105 => 339 | 21 => 21 | 119 => 326 | 46 => 203 | 139 => 382 | 138 => 381 | n => n, fun | 3 => 11 | 4 => 12 | n => n⟩
theorem Tryz.lays161 : Go.Proofs.Lays.n161 Tryz.prog Tryz.lays161_ren:={
  mixed:=by kernel_rfl
  f119:=Tryz.func303.trans (congrArg some (by kernel_rfl))
  f137:=Tryz.func262.trans (congrArg some (by kernel_rfl))
  f151:=Tryz.func228.trans (congrArg some (by kernel_rfl))
  f152:=Tryz.func282.trans (congrArg some (by kernel_rfl))
  f161:=Tryz.func132.trans (congrArg some (by kernel_rfl))
  f197:=Tryz.func259.trans (congrArg some (by kernel_rfl))
  f217:=Tryz.func296.trans (congrArg some (by kernel_rfl))
  f224:=Tryz.func112.trans (congrArg some (by kernel_rfl))
  f225:=Tryz.func299.trans (congrArg some (by kernel_rfl))
  f227:=Tryz.func186.trans (congrArg some (by kernel_rfl))
  f228:=Tryz.func258.trans (congrArg some (by kernel_rfl))
  f231:=Tryz.func185.trans (congrArg some (by kernel_rfl))
  f233:=Tryz.func187.trans (congrArg some (by kernel_rfl))
  f235:=Tryz.func188.trans (congrArg some (by kernel_rfl))
  f260:=Tryz.func294.trans (congrArg some (by kernel_rfl))
  f266:=Tryz.func306.trans (congrArg some (by kernel_rfl))
  t0:=Tryz.underlying0
  a0:=Tryz.isAgg0
  z0:=Tryz.sizeOf0
  v0:=Tryz.zeroValue0
  t3:=Tryz.underlying3
  a3:=Tryz.isAgg3
  z3:=Tryz.sizeOf3
  v3:=Tryz.zeroValue3
  t4:=Tryz.underlying4
  a4:=Tryz.isAgg4
  z4:=Tryz.sizeOf4
  v4:=Tryz.zeroValue4
  t5:=Tryz.underlying5
  a5:=Tryz.isAgg5
  z5:=Tryz.sizeOf5
  v5:=Tryz.zeroValue5
  t9:=Tryz.underlying9
  a9:=Tryz.isAgg9
  z9:=Tryz.sizeOf9
  v9:=Tryz.zeroValue9
  t21:=Tryz.underlying21
  a21:=Tryz.isAgg21
  z21:=Tryz.sizeOf21
  v21:=Tryz.zeroValue21
  t46:=Tryz.underlying203
  a46:=Tryz.isAgg203
  z46:=Tryz.sizeOf203
  v46:=Tryz.zeroValue203
  t105:=Tryz.underlying339
  a105:=Tryz.isAgg339
  z105:=Tryz.sizeOf339
  v105:=Tryz.zeroValue339
  t116:=Tryz.underlying280
  a116:=Tryz.isAgg280
  z116:=Tryz.sizeOf280
  t117:=Tryz.underlying281
  a117:=Tryz.isAgg281
  z117:=Tryz.sizeOf281
  v117:=Tryz.zeroValue281
  t119:=Tryz.underlying326
  a119:=Tryz.isAgg326
  z119:=Tryz.sizeOf326
  t124:=Tryz.underlying284
  a124:=Tryz.isAgg284
  z124:=Tryz.sizeOf284
  v124:=Tryz.zeroValue284
  t138:=Tryz.underlying381
  a138:=Tryz.isAgg381
  z138:=Tryz.sizeOf381
  v138:=Tryz.zeroValue381
  t139:=Tryz.underlying382
  a139:=Tryz.isAgg382
  z139:=Tryz.sizeOf382
  v139:=Tryz.zeroValue382
  g3:=by kernel_rfl
  g4:=by kernel_rfl }
def Tryz.lays162_ren : Go.Shelf.Ren:=⟨fun | 162 => 206 | 232 => 193 | 227 => 186 | 234 => 194 | 236 => 195 | 228 => 258 | 271 => 260 | 151 => 228 | 120 => 295 | 197 => 259 | 152 => 282 | 260 => 294 | 137 => 262 | 119 => 303 | 224 => 112 | 225 => 299 | 217 => 296 | 266 => 306 | n => n, fun | 9 => 9 | 4 => 4 | 3 => 3 | 5 => 5 | 117 => 281 | 116 => 280 | 0 => 0 | 124 => 284 | 21 => 21 | 105 => 339 | 46 => 203 | 119 => 326 | 139 => 382 | 138 => 381 | n => n, fun | 3 => 11 | 4 => 12 | n => n⟩
theorem Tryz.lays162 : Go.Proofs.Lays.n162 Tryz.prog Tryz.lays162_ren:={
  mixed:=by kernel_rfl
  f119:=Tryz.func303.trans (congrArg some (by kernel_rfl))
  f120:=Tryz.func295.trans (congrArg some (by kernel_rfl))
  f137:=Tryz.func262.trans (congrArg some (by kernel_rfl))
  f151:=Tryz.func228.trans (congrArg some (by kernel_rfl))
  f152:=Tryz.func282.trans (congrArg some (by kernel_rfl))
  f162:=Tryz.func206.trans (congrArg some (by kernel_rfl))
  f197:=Tryz.func259.trans (congrArg some (by kernel_rfl))
  f217:=Tryz.func296.trans (congrArg some (by kernel_rfl))
  f224:=Tryz.func112.trans (congrArg some (by kernel_rfl))
  f225:=Tryz.func299.trans (congrArg some (by kernel_rfl))
  f227:=Tryz.func186.trans (congrArg some (by kernel_rfl))
  f228:=Tryz.func258.trans (congrArg some (by kernel_rfl))
  f232:=Tryz.func193.trans (congrArg some (by kernel_rfl))
  f234:=Tryz.func194.trans (congrArg some (by kernel_rfl))
  f236:=Tryz.func195.trans (congrArg some (by kernel_rfl))
  f260:=Tryz.func294.trans (congrArg some (by kernel_rfl))
  f266:=Tryz.func306.trans (congrArg some (by kernel_rfl))
  f271:=Tryz.func260.trans (congrArg some (by kernel_rfl))
  t0:=Tryz.underlying0
  a0:=Tryz.isAgg0
  z0:=Tryz.sizeOf0
  v0:=Tryz.zeroValue0
  t3:=Tryz.underlying3
  a3:=Tryz.isAgg3
  z3:=Tryz.sizeOf3
  v3:=Tryz.zeroValue3
  t4:=Tryz.underlying4
  a4:=Tryz.isAgg4
  z4:=Tryz.sizeOf4
  v4:=Tryz.zeroValue4
  t5:=Tryz.underlying5
  a5:=Tryz.isAgg5
  z5:=Tryz.sizeOf5
  v5:=Tryz.zeroValue5
  t9:=Tryz.underlying9
  a9:=Tryz.isAgg9
  z9:=Tryz.sizeOf9
  v9:=Tryz.zeroValue9
  t21:=Tryz.underlying21
  a21:=Tryz.isAgg21
  z21:=Tryz.sizeOf21
  v21:=Tryz.zeroValue21
  t46:=Tryz.underlying203
  a46:=Tryz.isAgg203
  z46:=Tryz.sizeOf203
  v46:=Tryz.zeroValue203
  t105:=Tryz.underlying339
  a105:=Tryz.isAgg339
  z105:=Tryz.sizeOf339
  v105:=Tryz.zeroValue339
  t116:=Tryz.underlying280
  a116:=Tryz.isAgg280
  z116:=Tryz.sizeOf280
  t117:=Tryz.underlying281
  a117:=Tryz.isAgg281
  z117:=Tryz.sizeOf281
  v117:=Tryz.zeroValue281
  t119:=Tryz.underlying326
  a119:=Tryz.isAgg326
  z119:=Tryz.sizeOf326
  t124:=Tryz.underlying284
  a124:=Tryz.isAgg284
  z124:=Tryz.sizeOf284
  v124:=Tryz.zeroValue284
  t138:=Tryz.underlying381
  a138:=Tryz.isAgg381
  z138:=Tryz.sizeOf381
  v138:=Tryz.zeroValue381
  t139:=Tryz.underlying382
  a139:=Tryz.isAgg382
  z139:=Tryz.sizeOf382
  v139:=Tryz.zeroValue382
  g3:=by kernel_rfl
  g4:=by kernel_rfl }
def Tryz.lays160_ren : Go.Shelf.Ren:=⟨fun | 160 => 140 | 232 => 193 | 231 => 185 | 227 => 186 | 234 => 194 | 233 => 187 | 236 => 195 | 235 => 188 | 228 => 258 | 271 => 260 | 151 => 228 | 197 => 259 | 120 => 295 | 152 => 282 | 260 => 294 | 137 => 262 | 119 => 303 | 224 => 112 | 225 => 299 | 217 => 296 | 266 => 306 | n => n, fun | 9 => 9 | 4 => 4 | 3 => 3 | 5 => 5 | 117 => 281 | 116 => 280 | 0 => 0 | 124 => 284 | 21 => 21 | 105 => 339 | 46 => 203 | 119 => 326 | 139 => 382 | 138 => 381 | n => n, fun | 3 => 11 | 4 => 12 | n => n⟩
theorem Tryz.lays160 : Go.Proofs.Lays.n160 Tryz.prog Tryz.lays160_ren:={
  mixed:=by kernel_rfl
  f119:=Tryz.func303.trans (congrArg some (by kernel_rfl))
  f120:=Tryz.func295.trans (congrArg some (by kernel_rfl))
  f137:=Tryz.func262.trans (congrArg some (by kernel_rfl))
  f151:=Tryz.func228.trans (congrArg some (by kernel_rfl))
  f152:=Tryz.func282.trans (congrArg some (by kernel_rfl))
  f160:=Tryz.func140.trans (congrArg some (by kernel_rfl))
  f197:=Tryz.func259.trans (congrArg some (by kernel_rfl))
  f217:=Tryz.func296.trans (congrArg some (by kernel_rfl))
  f224:=Tryz.func112.trans (congrArg some (by kernel_rfl))
  f225:=Tryz.func299.trans (congrArg some (by kernel_rfl))
  f227:=Tryz.func186.trans (congrArg some (by kernel_rfl))
  f228:=Tryz.func258.trans (congrArg some (by kernel_rfl))
  f231:=Tryz.func185.trans (congrArg some (by kernel_rfl))
  f232:=Tryz.func193.trans (congrArg some (by kernel_rfl))
  f233:=Tryz.func187.trans (congrArg some (by kernel_rfl))
  f234:=Tryz.func194.trans (congrArg some (by kernel_rfl))
  f235:=Tryz.func188.trans (congrArg some (by kernel_rfl))
  f236:=Tryz.func195.trans (congrArg some (by kernel_rfl))
  f260:=Tryz.func294.trans (congrArg some (by kernel_rfl))
  f266:=Tryz.func306.trans (congrArg some (by kernel_rfl))
  f271:=Tryz.func260.trans (congrArg some (by kernel_rfl))
  t0:=Tryz.underlying0
  a0:=Tryz.isAgg0
  z0:=Tryz.sizeOf0
  v0:=Tryz.zeroValue0
  t3:=Tryz.underlying3
  a3:=Tryz.isAgg3
  z3:=Tryz.sizeOf3
  v3:=Tryz.zeroValue3
  t4:=Tryz.underlying4
  a4:=Tryz.isAgg4
  z4:=Tryz.sizeOf4
  v4:=Tryz.zeroValue4
  t5:=Tryz.underlying5
  a5:=Tryz.isAgg5
  z5:=Tryz.sizeOf5
  v5:=Tryz.zeroValue5
  t9:=Tryz.underlying9
  a9:=Tryz.isAgg9
  z9:=Tryz.sizeOf9
  v9:=Tryz.zeroValue9
  t21:=Tryz.underlying21
  a21:=Tryz.isAgg21
  z21:=Tryz.sizeOf21
  v21:=Tryz.zeroValue21
  t46:=Tryz.underlying203
  a46:=Tryz.isAgg203
  z46:=Tryz.sizeOf203
  v46:=Tryz.zeroValue203
  t105:=Tryz.underlying339
  a105:=Tryz.isAgg339
  z105:=Tryz.sizeOf339
  v105:=Tryz.zeroValue339
  t116:=Tryz.underlying280
  a116:=Tryz.isAgg280
  z116:=Tryz.sizeOf280
  t117:=Tryz.underlying281
  a117:=Tryz.isAgg281
  z117:=Tryz.sizeOf281
  v117:=Tryz.zeroValue281
  t119:=Tryz.underlying326
  a119:=Tryz.isAgg326
  z119:=Tryz.sizeOf326
  t124:=Tryz.underlying284
  a124:=Tryz.isAgg284
  z124:=Tryz.sizeOf284
  v124:=Tryz.zeroValue284
  t138:=Tryz.underlying381
  a138:=Tryz.isAgg381
  z138:=Tryz.sizeOf381
  v138:=Tryz.zeroValue381
  t139:=Tryz.underlying382
  a139:=Tryz.isAgg382
  z139:=Tryz.sizeOf382
  v139:=Tryz.zeroValue382
  g3:=by kernel_rfl
  g4:=by kernel_rfl }
def Tryz.lays118_ren : Go.Shelf.Ren:=⟨fun | 118 => 263 | n => n, fun | 21 => 21 | 3 => 3 | 4 => 4 | n => n, fun | n => n⟩
theorem Tryz.lays118 : Go.Proofs.Lays.n118 Tryz.prog Tryz.lays118_ren:={
  mixed:=by kernel_rfl
  f118:=Tryz.func263.trans (congrArg some (by kernel_rfl))
  t3:=Tryz.underlying3
  a3:=Tryz.isAgg3
  z3:=Tryz.sizeOf3
  v3:=Tryz.zeroValue3
  t4:=Tryz.underlying4
  a4:=Tryz.isAgg4
  z4:=Tryz.sizeOf4
  v4:=Tryz.zeroValue4
  t21:=Tryz.underlying21
  a21:=Tryz.isAgg21
  z21:=Tryz.sizeOf21
  v21:=Tryz.zeroValue21 }
theorem Tryz.utf8_RuneLen (r : Int) (w : World) :
    Calls Tryz.prog 263 #[.int .i32 r] w fun e w' => e = .returned (.int .i64 (Lib.runeLen r)) ∧ w' = w:=Any.utf8_RuneLen Tryz.lays118 r w
def Tryz.lays137_ren : Go.Shelf.Ren:=⟨fun | 137 => 262 | 217 => 296 | 266 => 306 | n => n, fun | 9 => 9 | 5 => 5 | 3 => 3 | n => n, fun | n => n⟩
theorem Tryz.lays137 : Go.Proofs.Lays.n137 Tryz.prog Tryz.lays137_ren:={
  mixed:=by kernel_rfl
  f137:=Tryz.func262.trans (congrArg some (by kernel_rfl))
  f217:=Tryz.func296.trans (congrArg some (by kernel_rfl))
  f266:=Tryz.func306.trans (congrArg some (by kernel_rfl))
  t3:=Tryz.underlying3
  a3:=Tryz.isAgg3
  z3:=Tryz.sizeOf3
  v3:=Tryz.zeroValue3
  t5:=Tryz.underlying5
  a5:=Tryz.isAgg5
  z5:=Tryz.sizeOf5
  v5:=Tryz.zeroValue5
  t9:=Tryz.underlying9
  a9:=Tryz.isAgg9
  z9:=Tryz.sizeOf9
  v9:=Tryz.zeroValue9 }
open Go.RowKit in
theorem Tryz.strings_IndexByte (s : ByteArray) (c : Int) (w : World) :
    Calls Tryz.prog 262 #[.string s, .int .u8 c] w fun e w' => e = .returned (.int .i64 (Lib.indexByte s.data.toList c.toNat.toUInt8)) ∧ w' = w:=Any.strings_IndexByte Tryz.lays137 s c w
def Tryz.lays103_ren : Go.Shelf.Ren:=⟨fun | 103 => 72 | 210 => 117 | 206 => 167 | n => n, fun | 9 => 9 | 4 => 4 | 24 => 145 | 3 => 3 | n => n, fun | n => n⟩
theorem Tryz.lays103 : Go.Proofs.Lays.n103 Tryz.prog Tryz.lays103_ren:={
  mixed:=by kernel_rfl
  f103:=Tryz.func72.trans (congrArg some (by kernel_rfl))
  f206:=Tryz.func167.trans (congrArg some (by kernel_rfl))
  f210:=Tryz.func117.trans (congrArg some (by kernel_rfl))
  t3:=Tryz.underlying3
  a3:=Tryz.isAgg3
  z3:=Tryz.sizeOf3
  v3:=Tryz.zeroValue3
  t4:=Tryz.underlying4
  a4:=Tryz.isAgg4
  z4:=Tryz.sizeOf4
  v4:=Tryz.zeroValue4
  t9:=Tryz.underlying9
  a9:=Tryz.isAgg9
  z9:=Tryz.sizeOf9
  v9:=Tryz.zeroValue9
  t24:=Tryz.underlying145
  a24:=Tryz.isAgg145
  z24:=Tryz.sizeOf145
  v24:=Tryz.zeroValue145 }
open Go.RowKit in
theorem Tryz.strings_CutPrefix (s p : ByteArray) (w : World) :
    Calls Tryz.prog 72 #[.string s, .string p] w fun e w' => e = .returned (.tuple #[.string ⟨(Lib.trimPrefix s.data.toList p.data.toList).toArray⟩, .bool (Lib.hasPrefix s.data.toList p.data.toList)]) ∧ w' = w:=Any.strings_CutPrefix Tryz.lays103 s p w
def Tryz.lays104_ren : Go.Shelf.Ren:=⟨fun | 104 => 226 | 211 => 281 | 207 => 189 | n => n, fun | 9 => 9 | 4 => 4 | 24 => 145 | 3 => 3 | n => n, fun | n => n⟩
theorem Tryz.lays104 : Go.Proofs.Lays.n104 Tryz.prog Tryz.lays104_ren:={
  mixed:=by kernel_rfl
  f104:=Tryz.func226.trans (congrArg some (by kernel_rfl))
  f207:=Tryz.func189.trans (congrArg some (by kernel_rfl))
  f211:=Tryz.func281.trans (congrArg some (by kernel_rfl))
  t3:=Tryz.underlying3
  a3:=Tryz.isAgg3
  z3:=Tryz.sizeOf3
  v3:=Tryz.zeroValue3
  t4:=Tryz.underlying4
  a4:=Tryz.isAgg4
  z4:=Tryz.sizeOf4
  v4:=Tryz.zeroValue4
  t9:=Tryz.underlying9
  a9:=Tryz.isAgg9
  z9:=Tryz.sizeOf9
  v9:=Tryz.zeroValue9
  t24:=Tryz.underlying145
  a24:=Tryz.isAgg145
  z24:=Tryz.sizeOf145
  v24:=Tryz.zeroValue145 }
open Go.RowKit in
theorem Tryz.strings_CutSuffix (s p : ByteArray) (w : World) (hs : s.size ≤ 9223372036854775807) :
    Calls Tryz.prog 226 #[.string s, .string p] w fun e w' => e = .returned (.tuple #[.string ⟨(Lib.trimSuffix s.data.toList p.data.toList).toArray⟩, .bool (Lib.hasSuffix s.data.toList p.data.toList)]) ∧ w' = w:=Any.strings_CutSuffix Tryz.lays104 s p w hs
def Tryz.lays172_ren : Go.Shelf.Ren:=⟨fun | 172 => 277 | 244 => 301 | 245 => 163 | 247 => 162 | 279 => 233 | 280 => 234 | 281 => 235 | 282 => 236 | 287 => 232 | 316 => 287 | 171 => 136 | 205 => 288 | 321 => 285 | 322 => 286 | 243 => 190 | 246 => 118 | 283 => 168 | 284 => 169 | 285 => 170 | 286 => 171 | 129 => 240 | 317 => 239 | 318 => 241 | 319 => 242 | 320 => 243 | 337 => 290 | 338 => 291 | n => n, fun | 9 => 9 | 3 => 3 | 75 => 198 | 76 => 275 | 4 => 4 | 5 => 5 | 167 => 320 | 37 => 22 | 0 => 0 | 85 => 199 | 2 => 2 | 168 => 323 | 53 => 257 | 175 => 321 | 46 => 203 | 210 => 353 | 127 => 338 | 145 => 366 | 143 => 364 | 21 => 21 | 171 => 256 | 173 => 260 | 212 => 329 | 51 => 252 | 20 => 20 | 213 => 330 | 232 => 378 | 233 => 379 | 80 => 277 | n => n, fun | 15 => 6 | 16 => 7 | 17 => 3 | 18 => 9 | 19 => 10 | n => n⟩
theorem Tryz.lays172 : Go.Proofs.Lays.n172 Tryz.prog Tryz.lays172_ren:={
  mixed:=by kernel_rfl
  f129:=Tryz.func240.trans (congrArg some (by kernel_rfl))
  f171:=Tryz.func136.trans (congrArg some (by kernel_rfl))
  f172:=Tryz.func277.trans (congrArg some (by kernel_rfl))
  f205:=Tryz.func288.trans (congrArg some (by kernel_rfl))
  f243:=Tryz.func190.trans (congrArg some (by kernel_rfl))
  f244:=Tryz.func301.trans (congrArg some (by kernel_rfl))
  f245:=Tryz.func163.trans (congrArg some (by kernel_rfl))
  f246:=Tryz.func118.trans (congrArg some (by kernel_rfl))
  f247:=Tryz.func162.trans (congrArg some (by kernel_rfl))
  f279:=Tryz.func233.trans (congrArg some (by kernel_rfl))
  f280:=Tryz.func234.trans (congrArg some (by kernel_rfl))
  f281:=Tryz.func235.trans (congrArg some (by kernel_rfl))
  f282:=Tryz.func236.trans (congrArg some (by kernel_rfl))
  f283:=Tryz.func168.trans (congrArg some (by kernel_rfl))
  f284:=Tryz.func169.trans (congrArg some (by kernel_rfl))
  f285:=Tryz.func170.trans (congrArg some (by kernel_rfl))
  f286:=Tryz.func171.trans (congrArg some (by kernel_rfl))
  f287:=Tryz.func232.trans (congrArg some (by kernel_rfl))
  f316:=Tryz.func287.trans (congrArg some (by kernel_rfl))
  f317:=Tryz.func239.trans (congrArg some (by kernel_rfl))
  f318:=Tryz.func241.trans (congrArg some (by kernel_rfl))
  f319:=Tryz.func242.trans (congrArg some (by kernel_rfl))
  f320:=Tryz.func243.trans (congrArg some (by kernel_rfl))
  f321:=Tryz.func285.trans (congrArg some (by kernel_rfl))
  f322:=Tryz.func286.trans (congrArg some (by kernel_rfl))
  f337:=Tryz.func290.trans (congrArg some (by kernel_rfl))
  f338:=Tryz.func291.trans (congrArg some (by kernel_rfl))
  t0:=Tryz.underlying0
  a0:=Tryz.isAgg0
  z0:=Tryz.sizeOf0
  v0:=Tryz.zeroValue0
  t2:=Tryz.underlying2
  a2:=Tryz.isAgg2
  z2:=Tryz.sizeOf2
  v2:=Tryz.zeroValue2
  t3:=Tryz.underlying3
  a3:=Tryz.isAgg3
  z3:=Tryz.sizeOf3
  v3:=Tryz.zeroValue3
  t4:=Tryz.underlying4
  a4:=Tryz.isAgg4
  z4:=Tryz.sizeOf4
  v4:=Tryz.zeroValue4
  t5:=Tryz.underlying5
  a5:=Tryz.isAgg5
  z5:=Tryz.sizeOf5
  v5:=Tryz.zeroValue5
  t9:=Tryz.underlying9
  a9:=Tryz.isAgg9
  z9:=Tryz.sizeOf9
  v9:=Tryz.zeroValue9
  t20:=Tryz.underlying20
  a20:=Tryz.isAgg20
  z20:=Tryz.sizeOf20
  v20:=Tryz.zeroValue20
  t21:=Tryz.underlying21
  a21:=Tryz.isAgg21
  z21:=Tryz.sizeOf21
  v21:=Tryz.zeroValue21
  t37:=Tryz.underlying22
  a37:=Tryz.isAgg22
  z37:=Tryz.sizeOf22
  v37:=Tryz.zeroValue22
  t46:=Tryz.underlying203
  a46:=Tryz.isAgg203
  z46:=Tryz.sizeOf203
  v46:=Tryz.zeroValue203
  t51:=Tryz.underlying252
  a51:=Tryz.isAgg252
  z51:=Tryz.sizeOf252
  v51:=Tryz.zeroValue252
  t53:=Tryz.underlying257
  a53:=Tryz.isAgg257
  z53:=Tryz.sizeOf257
  v53:=Tryz.zeroValue257
  t75:=Tryz.underlying198
  a75:=Tryz.isAgg198
  z75:=Tryz.sizeOf198
  v75:=Tryz.zeroValue198
  t76:=Tryz.underlying275
  a76:=Tryz.isAgg275
  z76:=Tryz.sizeOf275
  v76:=Tryz.zeroValue275
  t85:=Tryz.underlying199
  a85:=Tryz.isAgg199
  z85:=Tryz.sizeOf199
  v85:=Tryz.zeroValue199
  t127:=Tryz.underlying338
  a127:=Tryz.isAgg338
  z127:=Tryz.sizeOf338
  v127:=Tryz.zeroValue338
  t143:=Tryz.underlying364
  a143:=Tryz.isAgg364
  z143:=Tryz.sizeOf364
  v143:=Tryz.zeroValue364
  t145:=Tryz.underlying366
  a145:=Tryz.isAgg366
  z145:=Tryz.sizeOf366
  v145:=Tryz.zeroValue366
  t167:=Tryz.underlying320
  a167:=Tryz.isAgg320
  z167:=Tryz.sizeOf320
  v167:=Tryz.zeroValue320
  t168:=Tryz.underlying323
  a168:=Tryz.isAgg323
  z168:=Tryz.sizeOf323
  v168:=Tryz.zeroValue323
  t171:=Tryz.underlying256
  a171:=Tryz.isAgg256
  z171:=Tryz.sizeOf256
  v171:=Tryz.zeroValue256
  t173:=Tryz.underlying260
  a173:=Tryz.isAgg260
  z173:=Tryz.sizeOf260
  v173:=Tryz.zeroValue260
  t175:=Tryz.underlying321
  a175:=Tryz.isAgg321
  z175:=Tryz.sizeOf321
  v175:=Tryz.zeroValue321
  t210:=Tryz.underlying353
  a210:=Tryz.isAgg353
  z210:=Tryz.sizeOf353
  v210:=Tryz.zeroValue353
  t212:=Tryz.underlying329
  a212:=Tryz.isAgg329
  z212:=Tryz.sizeOf329
  v212:=Tryz.zeroValue329
  t213:=Tryz.underlying330
  a213:=Tryz.isAgg330
  z213:=Tryz.sizeOf330
  t232:=Tryz.underlying378
  a232:=Tryz.isAgg378
  z232:=Tryz.sizeOf378
  v232:=Tryz.zeroValue378
  t233:=Tryz.underlying379
  a233:=Tryz.isAgg379
  z233:=Tryz.sizeOf379
  v233:=Tryz.zeroValue379
  g15:=by kernel_rfl
  g16:=by kernel_rfl
  g17:=by kernel_rfl
  g18:=by kernel_rfl
  g19:=by kernel_rfl }
open Go.RowKit in
theorem Tryz.strconv_Atoi (s : ByteArray) (n : Int) (hl : s.size ≤ 18) (h : Lib.atoi s.data.toList = some n) (w : World) :
    Calls Tryz.prog 277 #[.string s] w fun e w' => e = .returned (.tuple #[.int .i64 n, .nilIface]) ∧ ∃ t, w' = Lib.bytesWorld w 5 t:=Any.strconv_Atoi Tryz.lays172 s n hl h w
def Tryz.laysM171_ren : Go.Shelf.Ren:=⟨fun | 171 => 136 | 243 => 190 | 246 => 118 | 283 => 168 | 284 => 169 | 285 => 170 | 286 => 171 | 129 => 240 | 317 => 239 | 318 => 241 | 319 => 242 | 320 => 243 | 337 => 290 | 338 => 291 | n => n, fun | 3 => 3 | 9 => 9 | 2 => 2 | 4 => 4 | 171 => 256 | 0 => 0 | 53 => 257 | 37 => 22 | 5 => 5 | 173 => 260 | 212 => 329 | 51 => 252 | 20 => 20 | 213 => 330 | 46 => 203 | 232 => 378 | 233 => 379 | n => n, fun | 17 => 3 | 18 => 9 | 19 => 10 | n => n⟩
theorem Tryz.laysM171 : Go.Proofs.LaysM.n171 Tryz.prog Tryz.laysM171_ren:={
  mixed:=by kernel_rfl
  f129:=Tryz.func240.trans (congrArg some (by kernel_rfl))
  f171:=Tryz.func136.trans (congrArg some (by kernel_rfl))
  f243:=Tryz.func190.trans (congrArg some (by kernel_rfl))
  f246:=Tryz.func118.trans (congrArg some (by kernel_rfl))
  f283:=Tryz.func168.trans (congrArg some (by kernel_rfl))
  f284:=Tryz.func169.trans (congrArg some (by kernel_rfl))
  f285:=Tryz.func170.trans (congrArg some (by kernel_rfl))
  f286:=Tryz.func171.trans (congrArg some (by kernel_rfl))
  f317:=Tryz.func239.trans (congrArg some (by kernel_rfl))
  f318:=Tryz.func241.trans (congrArg some (by kernel_rfl))
  f319:=Tryz.func242.trans (congrArg some (by kernel_rfl))
  f320:=Tryz.func243.trans (congrArg some (by kernel_rfl))
  f337:=Tryz.func290.trans (congrArg some (by kernel_rfl))
  f338:=Tryz.func291.trans (congrArg some (by kernel_rfl))
  t0:=Tryz.underlying0
  a0:=Tryz.isAgg0
  z0:=Tryz.sizeOf0
  v0:=Tryz.zeroValue0
  t2:=Tryz.underlying2
  a2:=Tryz.isAgg2
  z2:=Tryz.sizeOf2
  v2:=Tryz.zeroValue2
  t3:=Tryz.underlying3
  a3:=Tryz.isAgg3
  z3:=Tryz.sizeOf3
  v3:=Tryz.zeroValue3
  t4:=Tryz.underlying4
  a4:=Tryz.isAgg4
  z4:=Tryz.sizeOf4
  v4:=Tryz.zeroValue4
  t5:=Tryz.underlying5
  a5:=Tryz.isAgg5
  z5:=Tryz.sizeOf5
  v5:=Tryz.zeroValue5
  t9:=Tryz.underlying9
  a9:=Tryz.isAgg9
  z9:=Tryz.sizeOf9
  v9:=Tryz.zeroValue9
  t20:=Tryz.underlying20
  a20:=Tryz.isAgg20
  z20:=Tryz.sizeOf20
  v20:=Tryz.zeroValue20
  t37:=Tryz.underlying22
  a37:=Tryz.isAgg22
  z37:=Tryz.sizeOf22
  v37:=Tryz.zeroValue22
  t46:=Tryz.underlying203
  a46:=Tryz.isAgg203
  z46:=Tryz.sizeOf203
  v46:=Tryz.zeroValue203
  t51:=Tryz.underlying252
  a51:=Tryz.isAgg252
  z51:=Tryz.sizeOf252
  v51:=Tryz.zeroValue252
  t53:=Tryz.underlying257
  a53:=Tryz.isAgg257
  z53:=Tryz.sizeOf257
  v53:=Tryz.zeroValue257
  t171:=Tryz.underlying256
  a171:=Tryz.isAgg256
  z171:=Tryz.sizeOf256
  v171:=Tryz.zeroValue256
  t173:=Tryz.underlying260
  a173:=Tryz.isAgg260
  z173:=Tryz.sizeOf260
  v173:=Tryz.zeroValue260
  t212:=Tryz.underlying329
  a212:=Tryz.isAgg329
  z212:=Tryz.sizeOf329
  v212:=Tryz.zeroValue329
  t213:=Tryz.underlying330
  a213:=Tryz.isAgg330
  z213:=Tryz.sizeOf330
  t232:=Tryz.underlying378
  a232:=Tryz.isAgg378
  z232:=Tryz.sizeOf378
  v232:=Tryz.zeroValue378
  t233:=Tryz.underlying379
  a233:=Tryz.isAgg379
  z233:=Tryz.sizeOf379
  v233:=Tryz.zeroValue379
  g17:=by kernel_rfl
  g18:=by kernel_rfl
  g19:=by kernel_rfl
  i0:=by kernel_rfl
  i2:=by kernel_rfl
  i3:=by kernel_rfl
  i4:=by kernel_rfl
  i5:=by kernel_rfl
  i9:=by kernel_rfl
  i20:=by kernel_rfl
  i37:=by kernel_rfl
  i46:=by kernel_rfl
  i51:=by kernel_rfl
  i53:=by kernel_rfl
  i171:=by kernel_rfl
  i173:=by kernel_rfl
  i212:=by kernel_rfl
  i232:=by kernel_rfl
  i233:=by kernel_rfl
  m17:=by kernel_rfl
  m18:=by kernel_rfl
  m19:=by kernel_rfl }
open Go.RowKit Go.Sort Go.Lib in
theorem Tryz.strconv_Itoa (n : Int) (h0 : -9223372036854775808 ≤ n) (h1 : n ≤ 9223372036854775807) (w : World) (htab : Lib.TabIs Tryz.prog w "internal/strconv.uint64pow10" .u64 Lib.pow10Tab) :
    Calls Tryz.prog 136 #[.int .i64 n] w fun e w' => e = .returned (.string ⟨(Lib.itoa n).toArray⟩) ∧ ∃ k os, w' = grow (w.drewN k) os:=Any.strconv_Itoa Tryz.laysM171 n h0 h1 w htab
def Tryz.laysM173_ren : Go.Shelf.Ren:=⟨fun | 173 => 73 | 246 => 118 | 283 => 168 | 284 => 169 | 285 => 170 | 286 => 171 | 129 => 240 | 317 => 239 | 318 => 241 | 319 => 242 | 320 => 243 | 337 => 290 | 338 => 291 | n => n, fun | 2 => 2 | 3 => 3 | 9 => 9 | 4 => 4 | 171 => 256 | 0 => 0 | 53 => 257 | 37 => 22 | 5 => 5 | 173 => 260 | 212 => 329 | 51 => 252 | 20 => 20 | 213 => 330 | 46 => 203 | 232 => 378 | 233 => 379 | n => n, fun | 17 => 3 | 18 => 9 | 19 => 10 | n => n⟩
theorem Tryz.laysM173 : Go.Proofs.LaysM.n173 Tryz.prog Tryz.laysM173_ren:={
  mixed:=by kernel_rfl
  f129:=Tryz.func240.trans (congrArg some (by kernel_rfl))
  f173:=Tryz.func73.trans (congrArg some (by kernel_rfl))
  f246:=Tryz.func118.trans (congrArg some (by kernel_rfl))
  f283:=Tryz.func168.trans (congrArg some (by kernel_rfl))
  f284:=Tryz.func169.trans (congrArg some (by kernel_rfl))
  f285:=Tryz.func170.trans (congrArg some (by kernel_rfl))
  f286:=Tryz.func171.trans (congrArg some (by kernel_rfl))
  f317:=Tryz.func239.trans (congrArg some (by kernel_rfl))
  f318:=Tryz.func241.trans (congrArg some (by kernel_rfl))
  f319:=Tryz.func242.trans (congrArg some (by kernel_rfl))
  f320:=Tryz.func243.trans (congrArg some (by kernel_rfl))
  f337:=Tryz.func290.trans (congrArg some (by kernel_rfl))
  f338:=Tryz.func291.trans (congrArg some (by kernel_rfl))
  t0:=Tryz.underlying0
  a0:=Tryz.isAgg0
  z0:=Tryz.sizeOf0
  v0:=Tryz.zeroValue0
  t2:=Tryz.underlying2
  a2:=Tryz.isAgg2
  z2:=Tryz.sizeOf2
  v2:=Tryz.zeroValue2
  t3:=Tryz.underlying3
  a3:=Tryz.isAgg3
  z3:=Tryz.sizeOf3
  v3:=Tryz.zeroValue3
  t4:=Tryz.underlying4
  a4:=Tryz.isAgg4
  z4:=Tryz.sizeOf4
  v4:=Tryz.zeroValue4
  t5:=Tryz.underlying5
  a5:=Tryz.isAgg5
  z5:=Tryz.sizeOf5
  v5:=Tryz.zeroValue5
  t9:=Tryz.underlying9
  a9:=Tryz.isAgg9
  z9:=Tryz.sizeOf9
  v9:=Tryz.zeroValue9
  t20:=Tryz.underlying20
  a20:=Tryz.isAgg20
  z20:=Tryz.sizeOf20
  v20:=Tryz.zeroValue20
  t37:=Tryz.underlying22
  a37:=Tryz.isAgg22
  z37:=Tryz.sizeOf22
  v37:=Tryz.zeroValue22
  t46:=Tryz.underlying203
  a46:=Tryz.isAgg203
  z46:=Tryz.sizeOf203
  v46:=Tryz.zeroValue203
  t51:=Tryz.underlying252
  a51:=Tryz.isAgg252
  z51:=Tryz.sizeOf252
  v51:=Tryz.zeroValue252
  t53:=Tryz.underlying257
  a53:=Tryz.isAgg257
  z53:=Tryz.sizeOf257
  v53:=Tryz.zeroValue257
  t171:=Tryz.underlying256
  a171:=Tryz.isAgg256
  z171:=Tryz.sizeOf256
  v171:=Tryz.zeroValue256
  t173:=Tryz.underlying260
  a173:=Tryz.isAgg260
  z173:=Tryz.sizeOf260
  v173:=Tryz.zeroValue260
  t212:=Tryz.underlying329
  a212:=Tryz.isAgg329
  z212:=Tryz.sizeOf329
  v212:=Tryz.zeroValue329
  t213:=Tryz.underlying330
  a213:=Tryz.isAgg330
  z213:=Tryz.sizeOf330
  t232:=Tryz.underlying378
  a232:=Tryz.isAgg378
  z232:=Tryz.sizeOf378
  v232:=Tryz.zeroValue378
  t233:=Tryz.underlying379
  a233:=Tryz.isAgg379
  z233:=Tryz.sizeOf379
  v233:=Tryz.zeroValue379
  g17:=by kernel_rfl
  g18:=by kernel_rfl
  g19:=by kernel_rfl
  i0:=by kernel_rfl
  i2:=by kernel_rfl
  i3:=by kernel_rfl
  i4:=by kernel_rfl
  i5:=by kernel_rfl
  i9:=by kernel_rfl
  i20:=by kernel_rfl
  i37:=by kernel_rfl
  i46:=by kernel_rfl
  i51:=by kernel_rfl
  i53:=by kernel_rfl
  i171:=by kernel_rfl
  i173:=by kernel_rfl
  i212:=by kernel_rfl
  i232:=by kernel_rfl
  i233:=by kernel_rfl
  m17:=by kernel_rfl
  m18:=by kernel_rfl
  m19:=by kernel_rfl }
open Go.RowKit Go.Sort Go.Lib in
theorem Tryz.strconv_FormatInt_10 (n : Int) (h0 : -9223372036854775808 ≤ n) (h1 : n ≤ 9223372036854775807) (w : World) (htab : Lib.TabIs Tryz.prog w "internal/strconv.uint64pow10" .u64 Lib.pow10Tab) :
    Calls Tryz.prog 73 #[.int .i64 n, .int .i64 10] w fun e w' => e = .returned (.string ⟨(Lib.itoa n).toArray⟩) ∧ ∃ k os, w' = grow (w.drewN k) os:=Any.strconv_FormatInt_10 Tryz.laysM173 n h0 h1 w htab
def Tryz.lays144_ren : Go.Shelf.Ren:=⟨fun | 144 => 275 | 143 => 203 | 219 => 269 | 217 => 296 | 225 => 299 | 224 => 112 | 267 => 300 | 266 => 306 | 314 => 308 | n => n, fun | 9 => 9 | 4 => 4 | 3 => 3 | 5 => 5 | 46 => 203 | 146 => 253 | 51 => 252 | n => n, fun | 1 => 0 | n => n⟩
theorem Tryz.lays144 : Go.Proofs.Lays.n144 Tryz.prog Tryz.lays144_ren:={
  mixed:=by kernel_rfl
  f143:=Tryz.func203.trans (congrArg some (by kernel_rfl))
  f144:=Tryz.func275.trans (congrArg some (by kernel_rfl))
  f217:=Tryz.func296.trans (congrArg some (by kernel_rfl))
  f219:=Tryz.func269.trans (congrArg some (by kernel_rfl))
  f224:=Tryz.func112.trans (congrArg some (by kernel_rfl))
  f225:=Tryz.func299.trans (congrArg some (by kernel_rfl))
  f266:=Tryz.func306.trans (congrArg some (by kernel_rfl))
  f267:=Tryz.func300.trans (congrArg some (by kernel_rfl))
  f314:=Tryz.func308.trans (congrArg some (by kernel_rfl))
  t3:=Tryz.underlying3
  a3:=Tryz.isAgg3
  z3:=Tryz.sizeOf3
  v3:=Tryz.zeroValue3
  t4:=Tryz.underlying4
  a4:=Tryz.isAgg4
  z4:=Tryz.sizeOf4
  v4:=Tryz.zeroValue4
  t5:=Tryz.underlying5
  a5:=Tryz.isAgg5
  z5:=Tryz.sizeOf5
  v5:=Tryz.zeroValue5
  t9:=Tryz.underlying9
  a9:=Tryz.isAgg9
  z9:=Tryz.sizeOf9
  v9:=Tryz.zeroValue9
  t46:=Tryz.underlying203
  a46:=Tryz.isAgg203
  z46:=Tryz.sizeOf203
  v46:=Tryz.zeroValue203
  t51:=Tryz.underlying252
  a51:=Tryz.isAgg252
  z51:=Tryz.sizeOf252
  v51:=Tryz.zeroValue252
  t146:=Tryz.underlying253
  a146:=Tryz.isAgg253
  z146:=Tryz.sizeOf253
  v146:=Tryz.zeroValue253
  g1:=by kernel_rfl }
open Go.RowKit Go.Lib in
theorem Tryz.strings_Contains_one (s : ByteArray) (c : UInt8) (w : World) :
    Calls Tryz.prog 275 #[.string s, .string ⟨#[c]⟩] w fun e w' => e = .returned (.bool (decide (0 ≤ Lib.indexByte s.data.toList c))) ∧ w' = w:=Any.strings_Contains_one Tryz.lays144 s c w
def Tryz.lays145_ren : Go.Shelf.Ren:=⟨fun | 145 => 224 | 220 => 280 | 219 => 269 | 217 => 296 | 225 => 299 | 224 => 112 | 267 => 300 | 266 => 306 | 314 => 308 | n => n, fun | 9 => 9 | 4 => 4 | 59 => 312 | 3 => 3 | 5 => 5 | 46 => 203 | 146 => 253 | 51 => 252 | n => n, fun | 1 => 0 | n => n⟩
theorem Tryz.lays145 : Go.Proofs.Lays.n145 Tryz.prog Tryz.lays145_ren:={
  mixed:=by kernel_rfl
  f145:=Tryz.func224.trans (congrArg some (by kernel_rfl))
  f217:=Tryz.func296.trans (congrArg some (by kernel_rfl))
  f219:=Tryz.func269.trans (congrArg some (by kernel_rfl))
  f220:=Tryz.func280.trans (congrArg some (by kernel_rfl))
  f224:=Tryz.func112.trans (congrArg some (by kernel_rfl))
  f225:=Tryz.func299.trans (congrArg some (by kernel_rfl))
  f266:=Tryz.func306.trans (congrArg some (by kernel_rfl))
  f267:=Tryz.func300.trans (congrArg some (by kernel_rfl))
  f314:=Tryz.func308.trans (congrArg some (by kernel_rfl))
  t3:=Tryz.underlying3
  a3:=Tryz.isAgg3
  z3:=Tryz.sizeOf3
  v3:=Tryz.zeroValue3
  t4:=Tryz.underlying4
  a4:=Tryz.isAgg4
  z4:=Tryz.sizeOf4
  v4:=Tryz.zeroValue4
  t5:=Tryz.underlying5
  a5:=Tryz.isAgg5
  z5:=Tryz.sizeOf5
  v5:=Tryz.zeroValue5
  t9:=Tryz.underlying9
  a9:=Tryz.isAgg9
  z9:=Tryz.sizeOf9
  v9:=Tryz.zeroValue9
  t46:=Tryz.underlying203
  a46:=Tryz.isAgg203
  z46:=Tryz.sizeOf203
  v46:=Tryz.zeroValue203
  t51:=Tryz.underlying252
  a51:=Tryz.isAgg252
  z51:=Tryz.sizeOf252
  v51:=Tryz.zeroValue252
  t59:=Tryz.underlying312
  a59:=Tryz.isAgg312
  z59:=Tryz.sizeOf312
  v59:=Tryz.zeroValue312
  t146:=Tryz.underlying253
  a146:=Tryz.isAgg253
  z146:=Tryz.sizeOf253
  v146:=Tryz.zeroValue253
  g1:=by kernel_rfl }
open Go.RowKit Go.Lib in
theorem Tryz.strings_Cut (s sep : ByteArray) (m : Int) (w : World) (hs : s.size < 4294967281) (hm : w.cell? ⟨0, 0, none⟩ = some (.int .i64 m)) :
    Calls Tryz.prog 224 #[.string s, .string sep] w fun e w' => e = .returned (.tuple #[.string ⟨(Lib.cut s.data.toList sep.data.toList).1.toArray⟩, .string ⟨(Lib.cut s.data.toList sep.data.toList).2.1.toArray⟩, .bool (Lib.cut s.data.toList sep.data.toList).2.2]) ∧ ∃ n, w' = w.drewN n:=Any.strings_Cut Tryz.lays145 s sep m w hs hm
def Tryz.lays138_ren : Go.Shelf.Ren:=⟨fun | 138 => 156 | 195 => 218 | 218 => 219 | 143 => 203 | 219 => 269 | 217 => 296 | 225 => 299 | 224 => 112 | 267 => 300 | 266 => 306 | 314 => 308 | n => n, fun | 9 => 9 | 3 => 3 | 4 => 4 | 5 => 5 | 0 => 0 | 46 => 203 | 146 => 253 | 51 => 252 | n => n, fun | 1 => 0 | n => n⟩
theorem Tryz.lays138 : Go.Proofs.Lays.n138 Tryz.prog Tryz.lays138_ren:={
  mixed:=by kernel_rfl
  f138:=Tryz.func156.trans (congrArg some (by kernel_rfl))
  f143:=Tryz.func203.trans (congrArg some (by kernel_rfl))
  f195:=Tryz.func218.trans (congrArg some (by kernel_rfl))
  f217:=Tryz.func296.trans (congrArg some (by kernel_rfl))
  f218:=Tryz.func219.trans (congrArg some (by kernel_rfl))
  f219:=Tryz.func269.trans (congrArg some (by kernel_rfl))
  f224:=Tryz.func112.trans (congrArg some (by kernel_rfl))
  f225:=Tryz.func299.trans (congrArg some (by kernel_rfl))
  f266:=Tryz.func306.trans (congrArg some (by kernel_rfl))
  f267:=Tryz.func300.trans (congrArg some (by kernel_rfl))
  f314:=Tryz.func308.trans (congrArg some (by kernel_rfl))
  t0:=Tryz.underlying0
  a0:=Tryz.isAgg0
  z0:=Tryz.sizeOf0
  v0:=Tryz.zeroValue0
  t3:=Tryz.underlying3
  a3:=Tryz.isAgg3
  z3:=Tryz.sizeOf3
  v3:=Tryz.zeroValue3
  t4:=Tryz.underlying4
  a4:=Tryz.isAgg4
  z4:=Tryz.sizeOf4
  v4:=Tryz.zeroValue4
  t5:=Tryz.underlying5
  a5:=Tryz.isAgg5
  z5:=Tryz.sizeOf5
  v5:=Tryz.zeroValue5
  t9:=Tryz.underlying9
  a9:=Tryz.isAgg9
  z9:=Tryz.sizeOf9
  v9:=Tryz.zeroValue9
  t46:=Tryz.underlying203
  a46:=Tryz.isAgg203
  z46:=Tryz.sizeOf203
  v46:=Tryz.zeroValue203
  t51:=Tryz.underlying252
  a51:=Tryz.isAgg252
  z51:=Tryz.sizeOf252
  v51:=Tryz.zeroValue252
  t146:=Tryz.underlying253
  a146:=Tryz.isAgg253
  z146:=Tryz.sizeOf253
  v146:=Tryz.zeroValue253
  g1:=by kernel_rfl }
open Go.RowKit Go.Lib in
theorem Tryz.strings_Count_one (s : ByteArray) (c : UInt8) (w : World) :
    Calls Tryz.prog 156 #[.string s, .string ⟨#[c]⟩] w fun e w' => e = .returned (.int .i64 (Lib.countByte s.data.toList c)) ∧ w' = w:=Any.strings_Count_one Tryz.lays138 s c w
def Tryz.lays99_ren : Go.Shelf.Ren:=⟨fun | 99 => 180 | 206 => 167 | n => n, fun | 9 => 9 | 4 => 4 | 3 => 3 | n => n, fun | n => n⟩
theorem Tryz.lays99 : Go.Proofs.Lays.n99 Tryz.prog Tryz.lays99_ren:={
  mixed:=by kernel_rfl
  f99:=Tryz.func180.trans (congrArg some (by kernel_rfl))
  f206:=Tryz.func167.trans (congrArg some (by kernel_rfl))
  t3:=Tryz.underlying3
  a3:=Tryz.isAgg3
  z3:=Tryz.sizeOf3
  v3:=Tryz.zeroValue3
  t4:=Tryz.underlying4
  a4:=Tryz.isAgg4
  z4:=Tryz.sizeOf4
  v4:=Tryz.zeroValue4
  t9:=Tryz.underlying9
  a9:=Tryz.isAgg9
  z9:=Tryz.sizeOf9
  v9:=Tryz.zeroValue9 }
open Go.RowKit Go.Lib in
theorem Tryz.strings_HasPrefix (s p : ByteArray) (w : World) :
    Calls Tryz.prog 180 #[.string s, .string p] w fun e w' => e = .returned (.bool (Lib.hasPrefix s.data.toList p.data.toList)) ∧ w' = w:=Any.strings_HasPrefix Tryz.lays99 s p w
def Tryz.lays100_ren : Go.Shelf.Ren:=⟨fun | 100 => 133 | 207 => 189 | n => n, fun | 9 => 9 | 4 => 4 | 3 => 3 | n => n, fun | n => n⟩
theorem Tryz.lays100 : Go.Proofs.Lays.n100 Tryz.prog Tryz.lays100_ren:={
  mixed:=by kernel_rfl
  f100:=Tryz.func133.trans (congrArg some (by kernel_rfl))
  f207:=Tryz.func189.trans (congrArg some (by kernel_rfl))
  t3:=Tryz.underlying3
  a3:=Tryz.isAgg3
  z3:=Tryz.sizeOf3
  v3:=Tryz.zeroValue3
  t4:=Tryz.underlying4
  a4:=Tryz.isAgg4
  z4:=Tryz.sizeOf4
  v4:=Tryz.zeroValue4
  t9:=Tryz.underlying9
  a9:=Tryz.isAgg9
  z9:=Tryz.sizeOf9
  v9:=Tryz.zeroValue9 }
open Go.RowKit Go.Lib in
theorem Tryz.strings_HasSuffix (s p : ByteArray) (w : World) (hs : s.size ≤ 9223372036854775807) :
    Calls Tryz.prog 133 #[.string s, .string p] w fun e w' => e = .returned (.bool (Lib.hasSuffix s.data.toList p.data.toList)) ∧ w' = w:=Any.strings_HasSuffix Tryz.lays100 s p w hs
def Tryz.lays102_ren : Go.Shelf.Ren:=⟨fun | 102 => 97 | 209 => 147 | 207 => 189 | n => n, fun | 9 => 9 | 4 => 4 | 3 => 3 | n => n, fun | n => n⟩
theorem Tryz.lays102 : Go.Proofs.Lays.n102 Tryz.prog Tryz.lays102_ren:={
  mixed:=by kernel_rfl
  f102:=Tryz.func97.trans (congrArg some (by kernel_rfl))
  f207:=Tryz.func189.trans (congrArg some (by kernel_rfl))
  f209:=Tryz.func147.trans (congrArg some (by kernel_rfl))
  t3:=Tryz.underlying3
  a3:=Tryz.isAgg3
  z3:=Tryz.sizeOf3
  v3:=Tryz.zeroValue3
  t4:=Tryz.underlying4
  a4:=Tryz.isAgg4
  z4:=Tryz.sizeOf4
  v4:=Tryz.zeroValue4
  t9:=Tryz.underlying9
  a9:=Tryz.isAgg9
  z9:=Tryz.sizeOf9
  v9:=Tryz.zeroValue9 }
open Go.RowKit Go.Lib in
theorem Tryz.strings_TrimSuffix (s p : ByteArray) (w : World) (hs : s.size ≤ 9223372036854775807) :
    Calls Tryz.prog 97 #[.string s, .string p] w fun e w' => e = .returned (.string ⟨(Lib.trimSuffix s.data.toList p.data.toList).toArray⟩) ∧ w' = w:=Any.strings_TrimSuffix Tryz.lays102 s p w hs
def Tryz.lays157_ren : Go.Shelf.Ren:=⟨fun | 157 => 166 | 229 => 237 | 199 => 238 | 261 => 289 | 311 => 304 | 312 => 305 | n => n, fun | 9 => 9 | 31 => 27 | 3 => 3 | 5 => 5 | 4 => 4 | 119 => 326 | 0 => 0 | 40 => 237 | 152 => 355 | 21 => 21 | 154 => 357 | 51 => 252 | 141 => 359 | 196 => 370 | 193 => 367 | 198 => 373 | 49 => 371 | 194 => 368 | 201 => 376 | 226 => 384 | 46 => 203 | 227 => 385 | n => n, fun | 0 => 2 | 6 => 8 | n => n⟩
theorem Tryz.lays157 : Go.Proofs.Lays.n157 Tryz.prog Tryz.lays157_ren:={
  mixed:=by kernel_rfl
  f157:=Tryz.func166.trans (congrArg some (by kernel_rfl))
  f199:=Tryz.func238.trans (congrArg some (by kernel_rfl))
  f229:=Tryz.func237.trans (congrArg some (by kernel_rfl))
  f261:=Tryz.func289.trans (congrArg some (by kernel_rfl))
  f311:=Tryz.func304.trans (congrArg some (by kernel_rfl))
  f312:=Tryz.func305.trans (congrArg some (by kernel_rfl))
  t0:=Tryz.underlying0
  a0:=Tryz.isAgg0
  z0:=Tryz.sizeOf0
  v0:=Tryz.zeroValue0
  t3:=Tryz.underlying3
  a3:=Tryz.isAgg3
  z3:=Tryz.sizeOf3
  v3:=Tryz.zeroValue3
  t4:=Tryz.underlying4
  a4:=Tryz.isAgg4
  z4:=Tryz.sizeOf4
  v4:=Tryz.zeroValue4
  t5:=Tryz.underlying5
  a5:=Tryz.isAgg5
  z5:=Tryz.sizeOf5
  v5:=Tryz.zeroValue5
  t9:=Tryz.underlying9
  a9:=Tryz.isAgg9
  z9:=Tryz.sizeOf9
  v9:=Tryz.zeroValue9
  t21:=Tryz.underlying21
  a21:=Tryz.isAgg21
  z21:=Tryz.sizeOf21
  v21:=Tryz.zeroValue21
  t31:=Tryz.underlying27
  a31:=Tryz.isAgg27
  z31:=Tryz.sizeOf27
  v31:=Tryz.zeroValue27
  t40:=Tryz.underlying237
  a40:=Tryz.isAgg237
  z40:=Tryz.sizeOf237
  v40:=Tryz.zeroValue237
  t46:=Tryz.underlying203
  a46:=Tryz.isAgg203
  z46:=Tryz.sizeOf203
  v46:=Tryz.zeroValue203
  t49:=Tryz.underlying371
  a49:=Tryz.isAgg371
  z49:=Tryz.sizeOf371
  v49:=Tryz.zeroValue371
  t51:=Tryz.underlying252
  a51:=Tryz.isAgg252
  z51:=Tryz.sizeOf252
  v51:=Tryz.zeroValue252
  t119:=Tryz.underlying326
  a119:=Tryz.isAgg326
  z119:=Tryz.sizeOf326
  t141:=Tryz.underlying359
  a141:=Tryz.isAgg359
  z141:=Tryz.sizeOf359
  v141:=Tryz.zeroValue359
  t152:=Tryz.underlying355
  a152:=Tryz.isAgg355
  z152:=Tryz.sizeOf355
  v152:=Tryz.zeroValue355
  t154:=Tryz.underlying357
  a154:=Tryz.isAgg357
  z154:=Tryz.sizeOf357
  v154:=Tryz.zeroValue357
  t193:=Tryz.underlying367
  a193:=Tryz.isAgg367
  z193:=Tryz.sizeOf367
  v193:=Tryz.zeroValue367
  t194:=Tryz.underlying368
  a194:=Tryz.isAgg368
  z194:=Tryz.sizeOf368
  v194:=Tryz.zeroValue368
  t196:=Tryz.underlying370
  a196:=Tryz.isAgg370
  z196:=Tryz.sizeOf370
  v196:=Tryz.zeroValue370
  t198:=Tryz.underlying373
  a198:=Tryz.isAgg373
  z198:=Tryz.sizeOf373
  v198:=Tryz.zeroValue373
  t201:=Tryz.underlying376
  a201:=Tryz.isAgg376
  z201:=Tryz.sizeOf376
  v201:=Tryz.zeroValue376
  t226:=Tryz.underlying384
  a226:=Tryz.isAgg384
  z226:=Tryz.sizeOf384
  v226:=Tryz.zeroValue384
  t227:=Tryz.underlying385
  a227:=Tryz.isAgg385
  z227:=Tryz.sizeOf385
  v227:=Tryz.zeroValue385
  g0:=by kernel_rfl
  g6:=by kernel_rfl }
open Go.RowKit Go.Lib in
theorem Tryz.strings_Fields (s : ByteArray) (w : World) (hs : s.size < 4294967281) (hascii : ∀ (j : Nat) b, s.data.toList[j]? = some b → b.toNat < 128) (htab : Lib.TabIs Tryz.prog w "strings.asciiSpace" .u8 Lib.asciiSpaceTab) :
    Calls Tryz.prog 166 #[.string s] w fun e w' =>
      e = .returned (.slice (some ⟨w.heap.size, 0, none⟩) (Lib.fields s.data.toList).length (Lib.fields s.data.toList).length) ∧ w' = w.alloc (.cells ((Lib.fields s.data.toList).map fun l => Value.string ⟨l.toArray⟩).toArray 9):=Any.strings_Fields Tryz.lays157 (by kernel_rfl) (by kernel_rfl) s w hs hascii htab
def Tryz.lays151_ren : Go.Shelf.Ren:=⟨fun | 151 => 228 | 152 => 282 | 137 => 262 | 119 => 303 | 224 => 112 | 225 => 299 | 217 => 296 | 266 => 306 | n => n, fun | 9 => 9 | 21 => 21 | 4 => 4 | 3 => 3 | 5 => 5 | 0 => 0 | 46 => 203 | n => n, fun | n => n⟩
theorem Tryz.lays151 : Go.Proofs.Lays.n151 Tryz.prog Tryz.lays151_ren:={
  mixed:=by kernel_rfl
  f119:=Tryz.func303.trans (congrArg some (by kernel_rfl))
  f137:=Tryz.func262.trans (congrArg some (by kernel_rfl))
  f151:=Tryz.func228.trans (congrArg some (by kernel_rfl))
  f152:=Tryz.func282.trans (congrArg some (by kernel_rfl))
  f217:=Tryz.func296.trans (congrArg some (by kernel_rfl))
  f224:=Tryz.func112.trans (congrArg some (by kernel_rfl))
  f225:=Tryz.func299.trans (congrArg some (by kernel_rfl))
  f266:=Tryz.func306.trans (congrArg some (by kernel_rfl))
  t0:=Tryz.underlying0
  a0:=Tryz.isAgg0
  z0:=Tryz.sizeOf0
  v0:=Tryz.zeroValue0
  t3:=Tryz.underlying3
  a3:=Tryz.isAgg3
  z3:=Tryz.sizeOf3
  v3:=Tryz.zeroValue3
  t4:=Tryz.underlying4
  a4:=Tryz.isAgg4
  z4:=Tryz.sizeOf4
  v4:=Tryz.zeroValue4
  t5:=Tryz.underlying5
  a5:=Tryz.isAgg5
  z5:=Tryz.sizeOf5
  v5:=Tryz.zeroValue5
  t9:=Tryz.underlying9
  a9:=Tryz.isAgg9
  z9:=Tryz.sizeOf9
  v9:=Tryz.zeroValue9
  t21:=Tryz.underlying21
  a21:=Tryz.isAgg21
  z21:=Tryz.sizeOf21
  v21:=Tryz.zeroValue21
  t46:=Tryz.underlying203
  a46:=Tryz.isAgg203
  z46:=Tryz.sizeOf203
  v46:=Tryz.zeroValue203 }
open Go.RowKit Go.Lib in
theorem Tryz.strings_ContainsRune_ascii (s : ByteArray) (r : Int) (w : World) (h0 : 0 ≤ r) (h1 : r < 128) :
    Calls Tryz.prog 228 #[.string s, .int .i32 r] w fun e w' => e = .returned (.bool (decide (0 ≤ Lib.indexByte s.data.toList r.toNat.toUInt8))) ∧ w' = w:=Any.strings_ContainsRune_ascii Tryz.lays151 s r w h0 h1
def Tryz.lays150_ren : Go.Shelf.Ren:=⟨fun | 150 => 223 | 153 => 279 | 152 => 282 | 226 => 302 | 227 => 186 | 228 => 258 | 137 => 262 | 119 => 303 | 224 => 112 | 225 => 299 | 217 => 296 | 266 => 306 | n => n, fun | 9 => 9 | 4 => 4 | 3 => 3 | 5 => 5 | 21 => 21 | 117 => 281 | 116 => 280 | 0 => 0 | 46 => 203 | 124 => 284 | n => n, fun | n => n⟩
theorem Tryz.lays150 : Go.Proofs.Lays.n150 Tryz.prog Tryz.lays150_ren:={
  mixed:=by kernel_rfl
  f119:=Tryz.func303.trans (congrArg some (by kernel_rfl))
  f137:=Tryz.func262.trans (congrArg some (by kernel_rfl))
  f150:=Tryz.func223.trans (congrArg some (by kernel_rfl))
  f152:=Tryz.func282.trans (congrArg some (by kernel_rfl))
  f153:=Tryz.func279.trans (congrArg some (by kernel_rfl))
  f217:=Tryz.func296.trans (congrArg some (by kernel_rfl))
  f224:=Tryz.func112.trans (congrArg some (by kernel_rfl))
  f225:=Tryz.func299.trans (congrArg some (by kernel_rfl))
  f226:=Tryz.func302.trans (congrArg some (by kernel_rfl))
  f227:=Tryz.func186.trans (congrArg some (by kernel_rfl))
  f228:=Tryz.func258.trans (congrArg some (by kernel_rfl))
  f266:=Tryz.func306.trans (congrArg some (by kernel_rfl))
  t0:=Tryz.underlying0
  a0:=Tryz.isAgg0
  z0:=Tryz.sizeOf0
  v0:=Tryz.zeroValue0
  t3:=Tryz.underlying3
  a3:=Tryz.isAgg3
  z3:=Tryz.sizeOf3
  v3:=Tryz.zeroValue3
  t4:=Tryz.underlying4
  a4:=Tryz.isAgg4
  z4:=Tryz.sizeOf4
  v4:=Tryz.zeroValue4
  t5:=Tryz.underlying5
  a5:=Tryz.isAgg5
  z5:=Tryz.sizeOf5
  v5:=Tryz.zeroValue5
  t9:=Tryz.underlying9
  a9:=Tryz.isAgg9
  z9:=Tryz.sizeOf9
  v9:=Tryz.zeroValue9
  t21:=Tryz.underlying21
  a21:=Tryz.isAgg21
  z21:=Tryz.sizeOf21
  v21:=Tryz.zeroValue21
  t46:=Tryz.underlying203
  a46:=Tryz.isAgg203
  z46:=Tryz.sizeOf203
  v46:=Tryz.zeroValue203
  t116:=Tryz.underlying280
  a116:=Tryz.isAgg280
  z116:=Tryz.sizeOf280
  t117:=Tryz.underlying281
  a117:=Tryz.isAgg281
  z117:=Tryz.sizeOf281
  v117:=Tryz.zeroValue281
  t124:=Tryz.underlying284
  a124:=Tryz.isAgg284
  z124:=Tryz.sizeOf284
  v124:=Tryz.zeroValue284 }
open Go.RowKit Go.Lib in
theorem Tryz.strings_ContainsAny_laid (s chars : ByteArray) (w : World) (hs : s.size < 4294967281) (hcs : chars.size < 4294967281) (has : ∀ (j : Nat) b, s.data.toList[j]? = some b → b.toNat < 128) (hac : ∀ (j : Nat) b, chars.data.toList[j]? = some b → b.toNat < 128) :
    Calls Tryz.prog 223 #[.string s, .string chars] w fun e w' => e = .returned (.bool (Lib.containsAny s.data.toList chars.data.toList)) ∧ Below w.heap.size w w':=Any.strings_ContainsAny_laid Tryz.lays150 (by kernel_rfl) s chars w hs hcs has hac
def Tryz.lays212_ren : Go.Shelf.Ren:=⟨fun | 212 => 128 | 263 => 178 | 264 => 179 | n => n, fun | 46 => 203 | 51 => 252 | 146 => 253 | 53 => 257 | 148 => 269 | n => n, fun | n => n⟩
theorem Tryz.lays212 : Go.Proofs.Lays.n212 Tryz.prog Tryz.lays212_ren:={
  mixed:=by kernel_rfl
  f212:=Tryz.func128.trans (congrArg some (by kernel_rfl))
  f263:=Tryz.func178.trans (congrArg some (by kernel_rfl))
  f264:=Tryz.func179.trans (congrArg some (by kernel_rfl))
  t46:=Tryz.underlying203
  a46:=Tryz.isAgg203
  z46:=Tryz.sizeOf203
  v46:=Tryz.zeroValue203
  t51:=Tryz.underlying252
  a51:=Tryz.isAgg252
  z51:=Tryz.sizeOf252
  v51:=Tryz.zeroValue252
  t53:=Tryz.underlying257
  a53:=Tryz.isAgg257
  z53:=Tryz.sizeOf257
  v53:=Tryz.zeroValue257
  t146:=Tryz.underlying253
  a146:=Tryz.isAgg253
  z146:=Tryz.sizeOf253
  v146:=Tryz.zeroValue253
  t148:=Tryz.underlying269
  a148:=Tryz.isAgg269
  z148:=Tryz.sizeOf269
  v148:=Tryz.zeroValue269 }
open Go.RowKit Go.Lib in
theorem Tryz.bits_Mul (x y : Nat) (hx : x < 18446744073709551616) (hy : y < 18446744073709551616) (w : World) :
    Calls Tryz.prog 128 #[.int .u64 x, .int .u64 y] w fun e w' => e = .returned (.tuple #[.int .u64 ((x * y / 18446744073709551616 : Nat) : Int), .int .u64 ((x * y % 18446744073709551616 : Nat) : Int)]) ∧ w' = w:=Any.bits_Mul Tryz.lays212 x y hx hy w
def Tryz.lays105_ren : Go.Shelf.Ren:=⟨fun | 105 => 130 | 212 => 128 | 99 => 180 | 165 => 181 | 166 => 182 | 170 => 183 | 169 => 184 | 263 => 178 | 264 => 179 | 206 => 167 | 240 => 256 | 241 => 257 | 276 => 293 | 277 => 129 | n => n, fun | 9 => 9 | 3 => 3 | 4 => 4 | 20 => 20 | 0 => 0 | 46 => 203 | 109 => 218 | 5 => 5 | 72 => 273 | 76 => 275 | 51 => 252 | 146 => 253 | 53 => 257 | 148 => 269 | 70 => 271 | 37 => 22 | 75 => 198 | 127 => 338 | 164 => 361 | 80 => 277 | n => n, fun | n => n⟩
theorem Tryz.lays105 : Go.Proofs.Lays.n105 Tryz.prog Tryz.lays105_ren:={
  mixed:=by kernel_rfl
  f99:=Tryz.func180.trans (congrArg some (by kernel_rfl))
  f105:=Tryz.func130.trans (congrArg some (by kernel_rfl))
  f165:=Tryz.func181.trans (congrArg some (by kernel_rfl))
  f166:=Tryz.func182.trans (congrArg some (by kernel_rfl))
  f169:=Tryz.func184.trans (congrArg some (by kernel_rfl))
  f170:=Tryz.func183.trans (congrArg some (by kernel_rfl))
  f206:=Tryz.func167.trans (congrArg some (by kernel_rfl))
  f212:=Tryz.func128.trans (congrArg some (by kernel_rfl))
  f240:=Tryz.func256.trans (congrArg some (by kernel_rfl))
  f241:=Tryz.func257.trans (congrArg some (by kernel_rfl))
  f263:=Tryz.func178.trans (congrArg some (by kernel_rfl))
  f264:=Tryz.func179.trans (congrArg some (by kernel_rfl))
  f276:=Tryz.func293.trans (congrArg some (by kernel_rfl))
  f277:=Tryz.func129.trans (congrArg some (by kernel_rfl))
  t0:=Tryz.underlying0
  a0:=Tryz.isAgg0
  z0:=Tryz.sizeOf0
  v0:=Tryz.zeroValue0
  t3:=Tryz.underlying3
  a3:=Tryz.isAgg3
  z3:=Tryz.sizeOf3
  v3:=Tryz.zeroValue3
  t4:=Tryz.underlying4
  a4:=Tryz.isAgg4
  z4:=Tryz.sizeOf4
  v4:=Tryz.zeroValue4
  t5:=Tryz.underlying5
  a5:=Tryz.isAgg5
  z5:=Tryz.sizeOf5
  v5:=Tryz.zeroValue5
  t9:=Tryz.underlying9
  a9:=Tryz.isAgg9
  z9:=Tryz.sizeOf9
  v9:=Tryz.zeroValue9
  t20:=Tryz.underlying20
  a20:=Tryz.isAgg20
  z20:=Tryz.sizeOf20
  v20:=Tryz.zeroValue20
  t37:=Tryz.underlying22
  a37:=Tryz.isAgg22
  z37:=Tryz.sizeOf22
  v37:=Tryz.zeroValue22
  t46:=Tryz.underlying203
  a46:=Tryz.isAgg203
  z46:=Tryz.sizeOf203
  v46:=Tryz.zeroValue203
  t51:=Tryz.underlying252
  a51:=Tryz.isAgg252
  z51:=Tryz.sizeOf252
  v51:=Tryz.zeroValue252
  t53:=Tryz.underlying257
  a53:=Tryz.isAgg257
  z53:=Tryz.sizeOf257
  v53:=Tryz.zeroValue257
  t70:=Tryz.underlying271
  a70:=Tryz.isAgg271
  z70:=Tryz.sizeOf271
  v70:=Tryz.zeroValue271
  t72:=Tryz.underlying273
  a72:=Tryz.isAgg273
  z72:=Tryz.sizeOf273
  v72:=Tryz.zeroValue273
  t75:=Tryz.underlying198
  a75:=Tryz.isAgg198
  z75:=Tryz.sizeOf198
  v75:=Tryz.zeroValue198
  t76:=Tryz.underlying275
  a76:=Tryz.isAgg275
  z76:=Tryz.sizeOf275
  v76:=Tryz.zeroValue275
  t109:=Tryz.underlying218
  a109:=Tryz.isAgg218
  z109:=Tryz.sizeOf218
  v109:=Tryz.zeroValue218
  t127:=Tryz.underlying338
  a127:=Tryz.isAgg338
  z127:=Tryz.sizeOf338
  v127:=Tryz.zeroValue338
  t146:=Tryz.underlying253
  a146:=Tryz.isAgg253
  z146:=Tryz.sizeOf253
  v146:=Tryz.zeroValue253
  t148:=Tryz.underlying269
  a148:=Tryz.isAgg269
  z148:=Tryz.sizeOf269
  v148:=Tryz.zeroValue269
  t164:=Tryz.underlying361
  a164:=Tryz.isAgg361
  z164:=Tryz.sizeOf361
  v164:=Tryz.zeroValue361 }
theorem Tryz.Builder_Extra_105 : Builder.Extra Tryz.prog Tryz.lays105_ren:={
  sizeBuilder:=by kernel_rfl
  liesBuilder:=by kernel_rfl
  t5:=Tryz.underlying5
  a5:=Tryz.isAgg5
  z5:=Tryz.sizeOf5
  v5:=Tryz.zeroValue5
  infoByte:=by kernel_rfl
  cellsByte:=by kernel_rfl
  sizeByte:=by kernel_rfl
  neB5:=by decide }
open Go.RowKit Go.Lib in
theorem Tryz.strings_Repeat (s : ByteArray) (c : Nat) (w : World) (hc : c ≤ 9223372036854775807) (hlen : s.size * c ≤ 140737488355328) :
    Calls Tryz.prog 130 #[.string s, .int .i64 c] w fun e w' => e = .returned (.string ⟨(Lib.repeatL s.data.toList c).toArray⟩) ∧ Below w.heap.size w w':=Any.strings_Repeat Tryz.lays105 Tryz.Builder_Extra_105 s c w hc hlen
def Tryz.lays185_ren : Go.Shelf.Ren:=⟨fun | 185 => 66 | 187 => 110 | 115 => 92 | 253 => 111 | 224 => 112 | 254 => 113 | 255 => 164 | 291 => 165 | n => n, fun | 37 => 22 | 3 => 3 | 4 => 4 | 0 => 0 | 5 => 5 | 46 => 203 | 9 => 9 | 146 => 253 | 51 => 252 | n => n, fun | 1 => 0 | n => n⟩
theorem Tryz.lays185 : Go.Proofs.Lays.n185 Tryz.prog Tryz.lays185_ren:={
  mixed:=by kernel_rfl
  f115:=Tryz.func92.trans (congrArg some (by kernel_rfl))
  f185:=Tryz.func66.trans (congrArg some (by kernel_rfl))
  f187:=Tryz.func110.trans (congrArg some (by kernel_rfl))
  f224:=Tryz.func112.trans (congrArg some (by kernel_rfl))
  f253:=Tryz.func111.trans (congrArg some (by kernel_rfl))
  f254:=Tryz.func113.trans (congrArg some (by kernel_rfl))
  f255:=Tryz.func164.trans (congrArg some (by kernel_rfl))
  f291:=Tryz.func165.trans (congrArg some (by kernel_rfl))
  t0:=Tryz.underlying0
  a0:=Tryz.isAgg0
  z0:=Tryz.sizeOf0
  v0:=Tryz.zeroValue0
  t3:=Tryz.underlying3
  a3:=Tryz.isAgg3
  z3:=Tryz.sizeOf3
  v3:=Tryz.zeroValue3
  t4:=Tryz.underlying4
  a4:=Tryz.isAgg4
  z4:=Tryz.sizeOf4
  v4:=Tryz.zeroValue4
  t5:=Tryz.underlying5
  a5:=Tryz.isAgg5
  z5:=Tryz.sizeOf5
  v5:=Tryz.zeroValue5
  t9:=Tryz.underlying9
  a9:=Tryz.isAgg9
  z9:=Tryz.sizeOf9
  v9:=Tryz.zeroValue9
  t37:=Tryz.underlying22
  a37:=Tryz.isAgg22
  z37:=Tryz.sizeOf22
  v37:=Tryz.zeroValue22
  t46:=Tryz.underlying203
  a46:=Tryz.isAgg203
  z46:=Tryz.sizeOf203
  v46:=Tryz.zeroValue203
  t51:=Tryz.underlying252
  a51:=Tryz.isAgg252
  z51:=Tryz.sizeOf252
  v51:=Tryz.zeroValue252
  t146:=Tryz.underlying253
  a146:=Tryz.isAgg253
  z146:=Tryz.sizeOf253
  v146:=Tryz.zeroValue253
  g1:=by kernel_rfl }
open Go.RowKit Go.Lib in
theorem Tryz.bytes_Index_one (b o n c b2 o2 d : Nat) (xs : List Int) (cv : Int) (w : World) (hx : xs.length = n) (hc : ∀ i, i < n → w.cell? ⟨b, o + i, none⟩ = some (.int .u8 (xs.getD i 0))) (hc2 : w.cell? ⟨b2, o2, none⟩ = some (.int .u8 cv)) :
    Calls Tryz.prog 66 #[.slice (some ⟨b, o, none⟩) n c, .slice (some ⟨b2, o2, none⟩) 1 d] w fun e w' => e = .returned (.int .i64 (Lib.indexByte (Lib.bytesOf xs) cv.toNat.toUInt8)) ∧ w' = w:=Any.bytes_Index_one Tryz.lays185 b o n c b2 o2 d xs cv w hx hc hc2
open Go.RowKit Go.Lib in
theorem Tryz.bytes_Index_none (p q : Option Addr) (n c d : Nat) (w : World) :
    Calls Tryz.prog 66 #[.slice p n c, .slice q 0 d] w fun e w' => e = .returned (.int .i64 0) ∧ w' = w:=Any.bytes_Index_none Tryz.lays185 p q n c d w
open Go.RowKit Go.Lib in
theorem Tryz.bytes_Index_longer (p q : Option Addr) (n c m d : Nat) (w : World) (h2 : 2 ≤ m) (hnm : n < m) (hm : m ≤ 9223372036854775807) :
    Calls Tryz.prog 66 #[.slice p n c, .slice q m d] w fun e w' => e = .returned (.int .i64 (-1)) ∧ w' = w:=Any.bytes_Index_longer Tryz.lays185 p q n c m d w h2 hnm hm
open Go.RowKit Go.Lib in
theorem Tryz.bytes_Index_same (b o c b2 o2 d n : Nat) (xs ys : List Int) (w : World) (h2 : 2 ≤ n) (hm : n ≤ 9223372036854775807) (hx : xs.length = n) (hy : ys.length = n) (hc : ∀ i, i < n → w.cell? ⟨b, o + i, none⟩ = some (.int .u8 (xs.getD i 0))) (hc2 : ∀ i, i < n → w.cell? ⟨b2, o2 + i, none⟩ = some (.int .u8 (ys.getD i 0))) :
    Calls Tryz.prog 66 #[.slice (some ⟨b, o, none⟩) n c, .slice (some ⟨b2, o2, none⟩) n d] w fun e w' => e = .returned (.int .i64 (if Lib.bytesOf ys == Lib.bytesOf xs then 0 else -1)) ∧ w' = w:=Any.bytes_Index_same Tryz.lays185 b o c b2 o2 d n xs ys w h2 hm hx hy hc hc2
open Go.Proofs Go.RowKit Go.Lib in
theorem Tryz.bytes_Index_at (a1 a2 : Addr) (n c1 k c2 : Nat) (xs ys : List Int) (m : Int) (w : World) (hx : xs.length = n) (hy : ys.length = k) (hr1 : ∀ x ∈ xs, 0 ≤ x ∧ x < 256) (hr2 : ∀ y ∈ ys, 0 ≤ y ∧ y < 256) (hc1 : ∀ i, i < n → w.cell? (a1.add i) = some (.int .u8 (xs.getD i 0))) (hc2 : ∀ i, i < k → w.cell? (a2.add i) = some (.int .u8 (ys.getD i 0))) (hcap : n ≤ c1) (hs : n < 4294967281) (hk : k ≤ 9223372036854775807) (hm : w.cell? ⟨0, 0, none⟩ = some (.int .i64 m)) :
    Calls Tryz.prog 66 #[.slice (some a1) n c1, .slice (some a2) k c2] w fun e w' => e = .returned (.int .i64 (Lib.index (Lib.bytesOf xs) (Lib.bytesOf ys))) ∧ ∃ q, w' = w.drewN q:=Any.bytes_Index_at Tryz.lays185 a1 a2 n c1 k c2 xs ys m w hx hy hr1 hr2 hc1 hc2 hcap hs hk hm
end Go.Proofs
