/-
  Contracts of the library functions that the law reaches.
-/
import Derived.Shelf.Strings.Builder1
import Derived.Shelf.Strings.Builder2
import Derived.Shelf.Strings.Trim
import Derived.Shelf.Small.Utf8
import Derived.Shelf.Small.Strs
import Derived.Shelf.Small.Wraps
import Derived.Shelf.Strings.BuilderF
import Derived.Shelf.Strings.BuilderK
import Derived.Shelf.Strings.BuilderRune
import Derived.Shelf.Strings.Builder2Cap
import Derived.Shelf.Strconv.Atoi
import Derived.Shelf.Strconv.Itoa0
import Derived.Shelf.Strconv.Itoa1
import Derived.Shelf.LaysM
import Derived.Shelf.Strconv.Itoa2
import Derived.Shelf.Strconv.Itoa3
import Derived.Shelf.Strconv.Itoa4
import Derived.Shelf.Strings.Search1
import Derived.Shelf.Strings.Search2
import Derived.Shelf.Strings.Search3
import Derived.Shelf.Strings.Cut
import Derived.Shelf.Strings.Count
import Derived.Shelf.Strings.Shaped
import Derived.Shelf.Strings.Prefix
import Derived.Shelf.Strings.Fields
import Derived.Shelf.Strings.Runes
import Derived.Shelf.Strings.IndexAny
import Derived.Shelf.Strings.AsciiSet
import Derived.Shelf.Strings.IndexAnyAll
import Derived.Shelf.Bits.Mul64
import Derived.Shelf.Strings.Repeat
import Derived.Shelf.Unicode.DecodeSlow
import Derived.Shelf.Unicode.DecodeAny
import Derived.Shelf.Strings.MapAny
import Derived.Shelf.Strings.BuilderCap
import Derived.Shelf.Strings.MapGrows
import Derived.Shelf.Bytes.SlSearch0
import Derived.Shelf.Bytes.SlEqualAll
import Derived.Shelf.Bytes.Small
import Derived.Test.YtlhfikgjegcmaaaGreatDoorProg
namespace Go.Proofs
open Go.Shelf
open Tryz
theorem hT{α:Type}{a:Option α}{b c:α}(h:a=some b)(e:b=c):a=some c:=h.trans (congrArg some e)
def Tryz.lays161_ren : Go.Shelf.Ren:=⟨fun | 161 => 68 | 231 => 117 | 227 => 118 | 233 => 119 | 235 => 120 | 228 => 171 | 197 => 126 | 151 => 74 | 260 => 174 | 152 => 131 | 137 => 109 | 119 => 176 | 224 => 177 | 225 => 178 | 217 => 165 | 266 => 201 | n => n, fun | 9 => 9 | 4 => 4 | 3 => 3 | 5 => 5 | 117 => 200 | 116 => 199 | 0 => 0 | 124 => 203 | 105 => 204 | 21 => 21 | 119 => 188 | 46 => 191 | 139 => 284 | 138 => 283 | n => n, fun | 3 => 6 | 4 => 7 | n => n⟩
theorem Tryz.lays161 : Go.Proofs.Lays.n161 Tryz.prog Tryz.lays161_ren:={
  mixed:=by kernel_rfl
  f119:=hT func176 (by kernel_rfl)
  f137:=hT func109 (by kernel_rfl)
  f151:=hT func74 (by kernel_rfl)
  f152:=hT func131 (by kernel_rfl)
  f161:=hT func68 (by kernel_rfl)
  f197:=hT func126 (by kernel_rfl)
  f217:=hT func165 (by kernel_rfl)
  f224:=hT func177 (by kernel_rfl)
  f225:=hT func178 (by kernel_rfl)
  f227:=hT func118 (by kernel_rfl)
  f228:=hT func171 (by kernel_rfl)
  f231:=hT func117 (by kernel_rfl)
  f233:=hT func119 (by kernel_rfl)
  f235:=hT func120 (by kernel_rfl)
  f260:=hT func174 (by kernel_rfl)
  f266:=hT func201 (by kernel_rfl)
  t0:=underlying0
  a0:=isAgg0
  z0:=sizeOf0
  v0:=zeroValue0
  t3:=underlying3
  a3:=isAgg3
  z3:=sizeOf3
  v3:=zeroValue3
  t4:=underlying4
  a4:=isAgg4
  z4:=sizeOf4
  v4:=zeroValue4
  t5:=underlying5
  a5:=isAgg5
  z5:=sizeOf5
  v5:=zeroValue5
  t9:=underlying9
  a9:=isAgg9
  z9:=sizeOf9
  v9:=zeroValue9
  t21:=underlying21
  a21:=isAgg21
  z21:=sizeOf21
  v21:=zeroValue21
  t46:=underlying191
  a46:=isAgg191
  z46:=sizeOf191
  v46:=zeroValue191
  t105:=underlying204
  a105:=isAgg204
  z105:=sizeOf204
  v105:=zeroValue204
  t116:=underlying199
  a116:=isAgg199
  z116:=sizeOf199
  t117:=underlying200
  a117:=isAgg200
  z117:=sizeOf200
  v117:=zeroValue200
  t119:=underlying188
  a119:=isAgg188
  z119:=sizeOf188
  t124:=underlying203
  a124:=isAgg203
  z124:=sizeOf203
  v124:=zeroValue203
  t138:=underlying283
  a138:=isAgg283
  z138:=sizeOf283
  v138:=zeroValue283
  t139:=underlying284
  a139:=isAgg284
  z139:=sizeOf284
  v139:=zeroValue284
  g3:=by kernel_rfl
  g4:=by kernel_rfl }
def Tryz.lays162_ren : Go.Shelf.Ren:=⟨fun | 162 => 70 | 232 => 122 | 227 => 118 | 234 => 123 | 236 => 124 | 228 => 171 | 271 => 173 | 151 => 74 | 120 => 202 | 197 => 126 | 152 => 131 | 260 => 174 | 137 => 109 | 119 => 176 | 224 => 177 | 225 => 178 | 217 => 165 | 266 => 201 | n => n, fun | 9 => 9 | 4 => 4 | 3 => 3 | 5 => 5 | 117 => 200 | 116 => 199 | 0 => 0 | 124 => 203 | 21 => 21 | 105 => 204 | 46 => 191 | 119 => 188 | 139 => 284 | 138 => 283 | n => n, fun | 3 => 6 | 4 => 7 | n => n⟩
theorem Tryz.lays162 : Go.Proofs.Lays.n162 Tryz.prog Tryz.lays162_ren:={
  mixed:=by kernel_rfl
  f119:=hT func176 (by kernel_rfl)
  f120:=hT func202 (by kernel_rfl)
  f137:=hT func109 (by kernel_rfl)
  f151:=hT func74 (by kernel_rfl)
  f152:=hT func131 (by kernel_rfl)
  f162:=hT func70 (by kernel_rfl)
  f197:=hT func126 (by kernel_rfl)
  f217:=hT func165 (by kernel_rfl)
  f224:=hT func177 (by kernel_rfl)
  f225:=hT func178 (by kernel_rfl)
  f227:=hT func118 (by kernel_rfl)
  f228:=hT func171 (by kernel_rfl)
  f232:=hT func122 (by kernel_rfl)
  f234:=hT func123 (by kernel_rfl)
  f236:=hT func124 (by kernel_rfl)
  f260:=hT func174 (by kernel_rfl)
  f266:=hT func201 (by kernel_rfl)
  f271:=hT func173 (by kernel_rfl)
  t0:=underlying0
  a0:=isAgg0
  z0:=sizeOf0
  v0:=zeroValue0
  t3:=underlying3
  a3:=isAgg3
  z3:=sizeOf3
  v3:=zeroValue3
  t4:=underlying4
  a4:=isAgg4
  z4:=sizeOf4
  v4:=zeroValue4
  t5:=underlying5
  a5:=isAgg5
  z5:=sizeOf5
  v5:=zeroValue5
  t9:=underlying9
  a9:=isAgg9
  z9:=sizeOf9
  v9:=zeroValue9
  t21:=underlying21
  a21:=isAgg21
  z21:=sizeOf21
  v21:=zeroValue21
  t46:=underlying191
  a46:=isAgg191
  z46:=sizeOf191
  v46:=zeroValue191
  t105:=underlying204
  a105:=isAgg204
  z105:=sizeOf204
  v105:=zeroValue204
  t116:=underlying199
  a116:=isAgg199
  z116:=sizeOf199
  t117:=underlying200
  a117:=isAgg200
  z117:=sizeOf200
  v117:=zeroValue200
  t119:=underlying188
  a119:=isAgg188
  z119:=sizeOf188
  t124:=underlying203
  a124:=isAgg203
  z124:=sizeOf203
  v124:=zeroValue203
  t138:=underlying283
  a138:=isAgg283
  z138:=sizeOf283
  v138:=zeroValue283
  t139:=underlying284
  a139:=isAgg284
  z139:=sizeOf284
  v139:=zeroValue284
  g3:=by kernel_rfl
  g4:=by kernel_rfl }
def Tryz.lays160_ren : Go.Shelf.Ren:=⟨fun | 160 => 184 | 232 => 122 | 231 => 117 | 227 => 118 | 234 => 123 | 233 => 119 | 236 => 124 | 235 => 120 | 228 => 171 | 271 => 173 | 151 => 74 | 197 => 126 | 120 => 202 | 152 => 131 | 260 => 174 | 137 => 109 | 119 => 176 | 224 => 177 | 225 => 178 | 217 => 165 | 266 => 201 | n => n, fun | 9 => 9 | 4 => 4 | 3 => 3 | 5 => 5 | 117 => 200 | 116 => 199 | 0 => 0 | 124 => 203 | 21 => 21 | 105 => 204 | 46 => 191 | 119 => 188 | 139 => 284 | 138 => 283 | n => n, fun | 3 => 6 | 4 => 7 | n => n⟩
theorem Tryz.lays160 : Go.Proofs.Lays.n160 Tryz.prog Tryz.lays160_ren:={
  mixed:=by kernel_rfl
  f119:=hT func176 (by kernel_rfl)
  f120:=hT func202 (by kernel_rfl)
  f137:=hT func109 (by kernel_rfl)
  f151:=hT func74 (by kernel_rfl)
  f152:=hT func131 (by kernel_rfl)
  f160:=hT func184 (by kernel_rfl)
  f197:=hT func126 (by kernel_rfl)
  f217:=hT func165 (by kernel_rfl)
  f224:=hT func177 (by kernel_rfl)
  f225:=hT func178 (by kernel_rfl)
  f227:=hT func118 (by kernel_rfl)
  f228:=hT func171 (by kernel_rfl)
  f231:=hT func117 (by kernel_rfl)
  f232:=hT func122 (by kernel_rfl)
  f233:=hT func119 (by kernel_rfl)
  f234:=hT func123 (by kernel_rfl)
  f235:=hT func120 (by kernel_rfl)
  f236:=hT func124 (by kernel_rfl)
  f260:=hT func174 (by kernel_rfl)
  f266:=hT func201 (by kernel_rfl)
  f271:=hT func173 (by kernel_rfl)
  t0:=underlying0
  a0:=isAgg0
  z0:=sizeOf0
  v0:=zeroValue0
  t3:=underlying3
  a3:=isAgg3
  z3:=sizeOf3
  v3:=zeroValue3
  t4:=underlying4
  a4:=isAgg4
  z4:=sizeOf4
  v4:=zeroValue4
  t5:=underlying5
  a5:=isAgg5
  z5:=sizeOf5
  v5:=zeroValue5
  t9:=underlying9
  a9:=isAgg9
  z9:=sizeOf9
  v9:=zeroValue9
  t21:=underlying21
  a21:=isAgg21
  z21:=sizeOf21
  v21:=zeroValue21
  t46:=underlying191
  a46:=isAgg191
  z46:=sizeOf191
  v46:=zeroValue191
  t105:=underlying204
  a105:=isAgg204
  z105:=sizeOf204
  v105:=zeroValue204
  t116:=underlying199
  a116:=isAgg199
  z116:=sizeOf199
  t117:=underlying200
  a117:=isAgg200
  z117:=sizeOf200
  v117:=zeroValue200
  t119:=underlying188
  a119:=isAgg188
  z119:=sizeOf188
  t124:=underlying203
  a124:=isAgg203
  z124:=sizeOf203
  v124:=zeroValue203
  t138:=underlying283
  a138:=isAgg283
  z138:=sizeOf283
  v138:=zeroValue283
  t139:=underlying284
  a139:=isAgg284
  z139:=sizeOf284
  v139:=zeroValue284
  g3:=by kernel_rfl
  g4:=by kernel_rfl }
def Tryz.lays118_ren : Go.Shelf.Ren:=⟨fun | 118 => 127 | n => n, fun | 21 => 21 | 3 => 3 | 4 => 4 | n => n, fun | n => n⟩
theorem Tryz.lays118 : Go.Proofs.Lays.n118 Tryz.prog Tryz.lays118_ren:={
  mixed:=by kernel_rfl
  f118:=hT func127 (by kernel_rfl)
  t3:=underlying3
  a3:=isAgg3
  z3:=sizeOf3
  v3:=zeroValue3
  t4:=underlying4
  a4:=isAgg4
  z4:=sizeOf4
  v4:=zeroValue4
  t21:=underlying21
  a21:=isAgg21
  z21:=sizeOf21
  v21:=zeroValue21 }
theorem Tryz.utf8_RuneLen (r : Int) (w : World) :
    Calls Tryz.prog 127 #[.int .i32 r] w fun e w' => e = .returned (.int .i64 (Lib.runeLen r)) ∧ w' = w:=Any.utf8_RuneLen Tryz.lays118 r w
def Tryz.lays137_ren : Go.Shelf.Ren:=⟨fun | 137 => 109 | 217 => 165 | 266 => 201 | n => n, fun | 9 => 9 | 5 => 5 | 3 => 3 | n => n, fun | n => n⟩
theorem Tryz.lays137 : Go.Proofs.Lays.n137 Tryz.prog Tryz.lays137_ren:={
  mixed:=by kernel_rfl
  f137:=hT func109 (by kernel_rfl)
  f217:=hT func165 (by kernel_rfl)
  f266:=hT func201 (by kernel_rfl)
  t3:=underlying3
  a3:=isAgg3
  z3:=sizeOf3
  v3:=zeroValue3
  t5:=underlying5
  a5:=isAgg5
  z5:=sizeOf5
  v5:=zeroValue5
  t9:=underlying9
  a9:=isAgg9
  z9:=sizeOf9
  v9:=zeroValue9 }
open Go.RowKit in
theorem Tryz.strings_IndexByte (s : ByteArray) (c : Int) (w : World) :
    Calls Tryz.prog 109 #[.string s, .int .u8 c] w fun e w' => e = .returned (.int .i64 (Lib.indexByte s.data.toList c.toNat.toUInt8)) ∧ w' = w:=Any.strings_IndexByte Tryz.lays137 s c w
def Tryz.lays103_ren : Go.Shelf.Ren:=⟨fun | 103 => 65 | 210 => 115 | 206 => 162 | n => n, fun | 9 => 9 | 4 => 4 | 24 => 147 | 3 => 3 | n => n, fun | n => n⟩
theorem Tryz.lays103 : Go.Proofs.Lays.n103 Tryz.prog Tryz.lays103_ren:={
  mixed:=by kernel_rfl
  f103:=hT func65 (by kernel_rfl)
  f206:=hT func162 (by kernel_rfl)
  f210:=hT func115 (by kernel_rfl)
  t3:=underlying3
  a3:=isAgg3
  z3:=sizeOf3
  v3:=zeroValue3
  t4:=underlying4
  a4:=isAgg4
  z4:=sizeOf4
  v4:=zeroValue4
  t9:=underlying9
  a9:=isAgg9
  z9:=sizeOf9
  v9:=zeroValue9
  t24:=underlying147
  a24:=isAgg147
  z24:=sizeOf147
  v24:=zeroValue147 }
open Go.RowKit in
theorem Tryz.strings_CutPrefix (s p : ByteArray) (w : World) :
    Calls Tryz.prog 65 #[.string s, .string p] w fun e w' => e = .returned (.tuple #[.string ⟨(Lib.trimPrefix s.data.toList p.data.toList).toArray⟩, .bool (Lib.hasPrefix s.data.toList p.data.toList)]) ∧ w' = w:=Any.strings_CutPrefix Tryz.lays103 s p w
def Tryz.lays104_ren : Go.Shelf.Ren:=⟨fun | 104 => 71 | 211 => 125 | 207 => 172 | n => n, fun | 9 => 9 | 4 => 4 | 24 => 147 | 3 => 3 | n => n, fun | n => n⟩
theorem Tryz.lays104 : Go.Proofs.Lays.n104 Tryz.prog Tryz.lays104_ren:={
  mixed:=by kernel_rfl
  f104:=hT func71 (by kernel_rfl)
  f207:=hT func172 (by kernel_rfl)
  f211:=hT func125 (by kernel_rfl)
  t3:=underlying3
  a3:=isAgg3
  z3:=sizeOf3
  v3:=zeroValue3
  t4:=underlying4
  a4:=isAgg4
  z4:=sizeOf4
  v4:=zeroValue4
  t9:=underlying9
  a9:=isAgg9
  z9:=sizeOf9
  v9:=zeroValue9
  t24:=underlying147
  a24:=isAgg147
  z24:=sizeOf147
  v24:=zeroValue147 }
open Go.RowKit in
theorem Tryz.strings_CutSuffix (s p : ByteArray) (w : World) (hs : s.size ≤ 9223372036854775807) :
    Calls Tryz.prog 71 #[.string s, .string p] w fun e w' => e = .returned (.tuple #[.string ⟨(Lib.trimSuffix s.data.toList p.data.toList).toArray⟩, .bool (Lib.hasSuffix s.data.toList p.data.toList)]) ∧ w' = w:=Any.strings_CutSuffix Tryz.lays104 s p w hs
def Tryz.lays172_ren : Go.Shelf.Ren:=⟨fun | 172 => 107 | 244 => 163 | 245 => 164 | 247 => 196 | 279 => 197 | 280 => 198 | 281 => 199 | 282 => 200 | 287 => 225 | 316 => 226 | 171 => 228 | 205 => 227 | 321 => 236 | 322 => 237 | 243 => 238 | 246 => 190 | 283 => 213 | 284 => 214 | 285 => 215 | 286 => 216 | 129 => 231 | 317 => 230 | 318 => 232 | 319 => 233 | 320 => 234 | 337 => 240 | 338 => 241 | n => n, fun | 9 => 9 | 3 => 3 | 75 => 140 | 76 => 141 | 4 => 4 | 5 => 5 | 167 => 276 | 37 => 22 | 0 => 0 | 85 => 277 | 2 => 2 | 168 => 279 | 53 => 245 | 175 => 301 | 46 => 191 | 210 => 305 | 127 => 196 | 145 => 314 | 143 => 312 | 21 => 21 | 171 => 292 | 173 => 295 | 212 => 308 | 51 => 237 | 20 => 20 | 213 => 309 | 232 => 316 | 233 => 317 | 80 => 144 | n => n, fun | 15 => 8 | 16 => 9 | 17 => 10 | 18 => 11 | 19 => 12 | n => n⟩
theorem Tryz.lays172 : Go.Proofs.Lays.n172 Tryz.prog Tryz.lays172_ren:={
  mixed:=by kernel_rfl
  f129:=hT func231 (by kernel_rfl)
  f171:=hT func228 (by kernel_rfl)
  f172:=hT func107 (by kernel_rfl)
  f205:=hT func227 (by kernel_rfl)
  f243:=hT func238 (by kernel_rfl)
  f244:=hT func163 (by kernel_rfl)
  f245:=hT func164 (by kernel_rfl)
  f246:=hT func190 (by kernel_rfl)
  f247:=hT func196 (by kernel_rfl)
  f279:=hT func197 (by kernel_rfl)
  f280:=hT func198 (by kernel_rfl)
  f281:=hT func199 (by kernel_rfl)
  f282:=hT func200 (by kernel_rfl)
  f283:=hT func213 (by kernel_rfl)
  f284:=hT func214 (by kernel_rfl)
  f285:=hT func215 (by kernel_rfl)
  f286:=hT func216 (by kernel_rfl)
  f287:=hT func225 (by kernel_rfl)
  f316:=hT func226 (by kernel_rfl)
  f317:=hT func230 (by kernel_rfl)
  f318:=hT func232 (by kernel_rfl)
  f319:=hT func233 (by kernel_rfl)
  f320:=hT func234 (by kernel_rfl)
  f321:=hT func236 (by kernel_rfl)
  f322:=hT func237 (by kernel_rfl)
  f337:=hT func240 (by kernel_rfl)
  f338:=hT func241 (by kernel_rfl)
  t0:=underlying0
  a0:=isAgg0
  z0:=sizeOf0
  v0:=zeroValue0
  t2:=underlying2
  a2:=isAgg2
  z2:=sizeOf2
  v2:=zeroValue2
  t3:=underlying3
  a3:=isAgg3
  z3:=sizeOf3
  v3:=zeroValue3
  t4:=underlying4
  a4:=isAgg4
  z4:=sizeOf4
  v4:=zeroValue4
  t5:=underlying5
  a5:=isAgg5
  z5:=sizeOf5
  v5:=zeroValue5
  t9:=underlying9
  a9:=isAgg9
  z9:=sizeOf9
  v9:=zeroValue9
  t20:=underlying20
  a20:=isAgg20
  z20:=sizeOf20
  v20:=zeroValue20
  t21:=underlying21
  a21:=isAgg21
  z21:=sizeOf21
  v21:=zeroValue21
  t37:=underlying22
  a37:=isAgg22
  z37:=sizeOf22
  v37:=zeroValue22
  t46:=underlying191
  a46:=isAgg191
  z46:=sizeOf191
  v46:=zeroValue191
  t51:=underlying237
  a51:=isAgg237
  z51:=sizeOf237
  v51:=zeroValue237
  t53:=underlying245
  a53:=isAgg245
  z53:=sizeOf245
  v53:=zeroValue245
  t75:=underlying140
  a75:=isAgg140
  z75:=sizeOf140
  v75:=zeroValue140
  t76:=underlying141
  a76:=isAgg141
  z76:=sizeOf141
  v76:=zeroValue141
  t85:=underlying277
  a85:=isAgg277
  z85:=sizeOf277
  v85:=zeroValue277
  t127:=underlying196
  a127:=isAgg196
  z127:=sizeOf196
  v127:=zeroValue196
  t143:=underlying312
  a143:=isAgg312
  z143:=sizeOf312
  v143:=zeroValue312
  t145:=underlying314
  a145:=isAgg314
  z145:=sizeOf314
  v145:=zeroValue314
  t167:=underlying276
  a167:=isAgg276
  z167:=sizeOf276
  v167:=zeroValue276
  t168:=underlying279
  a168:=isAgg279
  z168:=sizeOf279
  v168:=zeroValue279
  t171:=underlying292
  a171:=isAgg292
  z171:=sizeOf292
  v171:=zeroValue292
  t173:=underlying295
  a173:=isAgg295
  z173:=sizeOf295
  v173:=zeroValue295
  t175:=underlying301
  a175:=isAgg301
  z175:=sizeOf301
  v175:=zeroValue301
  t210:=underlying305
  a210:=isAgg305
  z210:=sizeOf305
  v210:=zeroValue305
  t212:=underlying308
  a212:=isAgg308
  z212:=sizeOf308
  v212:=zeroValue308
  t213:=underlying309
  a213:=isAgg309
  z213:=sizeOf309
  t232:=underlying316
  a232:=isAgg316
  z232:=sizeOf316
  v232:=zeroValue316
  t233:=underlying317
  a233:=isAgg317
  z233:=sizeOf317
  v233:=zeroValue317
  g15:=by kernel_rfl
  g16:=by kernel_rfl
  g17:=by kernel_rfl
  g18:=by kernel_rfl
  g19:=by kernel_rfl }
open Go.RowKit in
theorem Tryz.strconv_Atoi (s : ByteArray) (n : Int) (hl : s.size ≤ 18) (h : Lib.atoi s.data.toList = some n) (w : World) :
    Calls Tryz.prog 107 #[.string s] w fun e w' => e = .returned (.tuple #[.int .i64 n, .nilIface]) ∧ ∃ t, w' = Lib.bytesWorld w 5 t:=Any.strconv_Atoi Tryz.lays172 s n hl h w
def Tryz.laysM173_ren : Go.Shelf.Ren:=⟨fun | 173 => 148 | 246 => 190 | 283 => 213 | 284 => 214 | 285 => 215 | 286 => 216 | 129 => 231 | 317 => 230 | 318 => 232 | 319 => 233 | 320 => 234 | 337 => 240 | 338 => 241 | n => n, fun | 2 => 2 | 3 => 3 | 9 => 9 | 4 => 4 | 171 => 292 | 0 => 0 | 53 => 245 | 37 => 22 | 5 => 5 | 173 => 295 | 212 => 308 | 51 => 237 | 20 => 20 | 213 => 309 | 46 => 191 | 232 => 316 | 233 => 317 | n => n, fun | 17 => 10 | 18 => 11 | 19 => 12 | n => n⟩
theorem Tryz.laysM173 : Go.Proofs.LaysM.n173 Tryz.prog Tryz.laysM173_ren:={
  mixed:=by kernel_rfl
  f129:=hT func231 (by kernel_rfl)
  f173:=hT func148 (by kernel_rfl)
  f246:=hT func190 (by kernel_rfl)
  f283:=hT func213 (by kernel_rfl)
  f284:=hT func214 (by kernel_rfl)
  f285:=hT func215 (by kernel_rfl)
  f286:=hT func216 (by kernel_rfl)
  f317:=hT func230 (by kernel_rfl)
  f318:=hT func232 (by kernel_rfl)
  f319:=hT func233 (by kernel_rfl)
  f320:=hT func234 (by kernel_rfl)
  f337:=hT func240 (by kernel_rfl)
  f338:=hT func241 (by kernel_rfl)
  t0:=underlying0
  a0:=isAgg0
  z0:=sizeOf0
  v0:=zeroValue0
  t2:=underlying2
  a2:=isAgg2
  z2:=sizeOf2
  v2:=zeroValue2
  t3:=underlying3
  a3:=isAgg3
  z3:=sizeOf3
  v3:=zeroValue3
  t4:=underlying4
  a4:=isAgg4
  z4:=sizeOf4
  v4:=zeroValue4
  t5:=underlying5
  a5:=isAgg5
  z5:=sizeOf5
  v5:=zeroValue5
  t9:=underlying9
  a9:=isAgg9
  z9:=sizeOf9
  v9:=zeroValue9
  t20:=underlying20
  a20:=isAgg20
  z20:=sizeOf20
  v20:=zeroValue20
  t37:=underlying22
  a37:=isAgg22
  z37:=sizeOf22
  v37:=zeroValue22
  t46:=underlying191
  a46:=isAgg191
  z46:=sizeOf191
  v46:=zeroValue191
  t51:=underlying237
  a51:=isAgg237
  z51:=sizeOf237
  v51:=zeroValue237
  t53:=underlying245
  a53:=isAgg245
  z53:=sizeOf245
  v53:=zeroValue245
  t171:=underlying292
  a171:=isAgg292
  z171:=sizeOf292
  v171:=zeroValue292
  t173:=underlying295
  a173:=isAgg295
  z173:=sizeOf295
  v173:=zeroValue295
  t212:=underlying308
  a212:=isAgg308
  z212:=sizeOf308
  v212:=zeroValue308
  t213:=underlying309
  a213:=isAgg309
  z213:=sizeOf309
  t232:=underlying316
  a232:=isAgg316
  z232:=sizeOf316
  v232:=zeroValue316
  t233:=underlying317
  a233:=isAgg317
  z233:=sizeOf317
  v233:=zeroValue317
  g17:=by kernel_rfl
  g18:=by kernel_rfl
  g19:=by kernel_rfl
  i0:=by kernel_rfl
  i2:=by kernel_rfl
  i3:=by kernel_rfl
  i4:=by kernel_rfl
  i5:=by kernel_rfl
  i9:=by kernel_rfl
  i20:=by kernel_rfl
  i37:=by kernel_rfl
  i46:=by kernel_rfl
  i51:=by kernel_rfl
  i53:=by kernel_rfl
  i171:=by kernel_rfl
  i173:=by kernel_rfl
  i212:=by kernel_rfl
  i232:=by kernel_rfl
  i233:=by kernel_rfl
  m17:=by kernel_rfl
  m18:=by kernel_rfl
  m19:=by kernel_rfl }
open Go.RowKit Go.Sort Go.Lib in
theorem Tryz.strconv_FormatInt_10 (n : Int) (h0 : -9223372036854775808 ≤ n) (h1 : n ≤ 9223372036854775807) (w : World) (htab : Lib.TabIs Tryz.prog w "internal/strconv.uint64pow10" .u64 Lib.pow10Tab) :
    Calls Tryz.prog 148 #[.int .i64 n, .int .i64 10] w fun e w' => e = .returned (.string ⟨(Lib.itoa n).toArray⟩) ∧ ∃ k os, w' = grow (w.drewN k) os:=Any.strconv_FormatInt_10 Tryz.laysM173 n h0 h1 w htab
def Tryz.lays144_ren : Go.Shelf.Ren:=⟨fun | 144 => 239 | 143 => 80 | 219 => 134 | 217 => 165 | 225 => 178 | 224 => 177 | 267 => 179 | 266 => 201 | 314 => 204 | n => n, fun | 9 => 9 | 4 => 4 | 3 => 3 | 5 => 5 | 46 => 191 | 146 => 243 | 51 => 237 | n => n, fun | 1 => 2 | n => n⟩
theorem Tryz.lays144 : Go.Proofs.Lays.n144 Tryz.prog Tryz.lays144_ren:={
  mixed:=by kernel_rfl
  f143:=hT func80 (by kernel_rfl)
  f144:=hT func239 (by kernel_rfl)
  f217:=hT func165 (by kernel_rfl)
  f219:=hT func134 (by kernel_rfl)
  f224:=hT func177 (by kernel_rfl)
  f225:=hT func178 (by kernel_rfl)
  f266:=hT func201 (by kernel_rfl)
  f267:=hT func179 (by kernel_rfl)
  f314:=hT func204 (by kernel_rfl)
  t3:=underlying3
  a3:=isAgg3
  z3:=sizeOf3
  v3:=zeroValue3
  t4:=underlying4
  a4:=isAgg4
  z4:=sizeOf4
  v4:=zeroValue4
  t5:=underlying5
  a5:=isAgg5
  z5:=sizeOf5
  v5:=zeroValue5
  t9:=underlying9
  a9:=isAgg9
  z9:=sizeOf9
  v9:=zeroValue9
  t46:=underlying191
  a46:=isAgg191
  z46:=sizeOf191
  v46:=zeroValue191
  t51:=underlying237
  a51:=isAgg237
  z51:=sizeOf237
  v51:=zeroValue237
  t146:=underlying243
  a146:=isAgg243
  z146:=sizeOf243
  v146:=zeroValue243
  g1:=by kernel_rfl }
open Go.RowKit Go.Lib in
theorem Tryz.strings_Contains_one (s : ByteArray) (c : UInt8) (w : World) :
    Calls Tryz.prog 239 #[.string s, .string ⟨#[c]⟩] w fun e w' => e = .returned (.bool (decide (0 ≤ Lib.indexByte s.data.toList c))) ∧ w' = w:=Any.strings_Contains_one Tryz.lays144 s c w
def Tryz.lays145_ren : Go.Shelf.Ren:=⟨fun | 145 => 66 | 220 => 116 | 219 => 134 | 217 => 165 | 225 => 178 | 224 => 177 | 267 => 179 | 266 => 201 | 314 => 204 | n => n, fun | 9 => 9 | 4 => 4 | 59 => 149 | 3 => 3 | 5 => 5 | 46 => 191 | 146 => 243 | 51 => 237 | n => n, fun | 1 => 2 | n => n⟩
theorem Tryz.lays145 : Go.Proofs.Lays.n145 Tryz.prog Tryz.lays145_ren:={
  mixed:=by kernel_rfl
  f145:=hT func66 (by kernel_rfl)
  f217:=hT func165 (by kernel_rfl)
  f219:=hT func134 (by kernel_rfl)
  f220:=hT func116 (by kernel_rfl)
  f224:=hT func177 (by kernel_rfl)
  f225:=hT func178 (by kernel_rfl)
  f266:=hT func201 (by kernel_rfl)
  f267:=hT func179 (by kernel_rfl)
  f314:=hT func204 (by kernel_rfl)
  t3:=underlying3
  a3:=isAgg3
  z3:=sizeOf3
  v3:=zeroValue3
  t4:=underlying4
  a4:=isAgg4
  z4:=sizeOf4
  v4:=zeroValue4
  t5:=underlying5
  a5:=isAgg5
  z5:=sizeOf5
  v5:=zeroValue5
  t9:=underlying9
  a9:=isAgg9
  z9:=sizeOf9
  v9:=zeroValue9
  t46:=underlying191
  a46:=isAgg191
  z46:=sizeOf191
  v46:=zeroValue191
  t51:=underlying237
  a51:=isAgg237
  z51:=sizeOf237
  v51:=zeroValue237
  t59:=underlying149
  a59:=isAgg149
  z59:=sizeOf149
  v59:=zeroValue149
  t146:=underlying243
  a146:=isAgg243
  z146:=sizeOf243
  v146:=zeroValue243
  g1:=by kernel_rfl }
open Go.RowKit Go.Lib in
theorem Tryz.strings_Cut (s sep : ByteArray) (m : Int) (w : World) (hs : s.size < 4294967281) (hm : w.cell? ⟨2, 0, none⟩ = some (.int .i64 m)) :
    Calls Tryz.prog 66 #[.string s, .string sep] w fun e w' => e = .returned (.tuple #[.string ⟨(Lib.cut s.data.toList sep.data.toList).1.toArray⟩, .string ⟨(Lib.cut s.data.toList sep.data.toList).2.1.toArray⟩, .bool (Lib.cut s.data.toList sep.data.toList).2.2]) ∧ ∃ n, w' = w.drewN n:=Any.strings_Cut Tryz.lays145 s sep m w hs hm
def Tryz.lays138_ren : Go.Shelf.Ren:=⟨fun | 138 => 45 | 195 => 78 | 218 => 79 | 143 => 80 | 219 => 134 | 217 => 165 | 225 => 178 | 224 => 177 | 267 => 179 | 266 => 201 | 314 => 204 | n => n, fun | 9 => 9 | 3 => 3 | 4 => 4 | 5 => 5 | 0 => 0 | 46 => 191 | 146 => 243 | 51 => 237 | n => n, fun | 1 => 2 | n => n⟩
theorem Tryz.lays138 : Go.Proofs.Lays.n138 Tryz.prog Tryz.lays138_ren:={
  mixed:=by kernel_rfl
  f138:=hT func45 (by kernel_rfl)
  f143:=hT func80 (by kernel_rfl)
  f195:=hT func78 (by kernel_rfl)
  f217:=hT func165 (by kernel_rfl)
  f218:=hT func79 (by kernel_rfl)
  f219:=hT func134 (by kernel_rfl)
  f224:=hT func177 (by kernel_rfl)
  f225:=hT func178 (by kernel_rfl)
  f266:=hT func201 (by kernel_rfl)
  f267:=hT func179 (by kernel_rfl)
  f314:=hT func204 (by kernel_rfl)
  t0:=underlying0
  a0:=isAgg0
  z0:=sizeOf0
  v0:=zeroValue0
  t3:=underlying3
  a3:=isAgg3
  z3:=sizeOf3
  v3:=zeroValue3
  t4:=underlying4
  a4:=isAgg4
  z4:=sizeOf4
  v4:=zeroValue4
  t5:=underlying5
  a5:=isAgg5
  z5:=sizeOf5
  v5:=zeroValue5
  t9:=underlying9
  a9:=isAgg9
  z9:=sizeOf9
  v9:=zeroValue9
  t46:=underlying191
  a46:=isAgg191
  z46:=sizeOf191
  v46:=zeroValue191
  t51:=underlying237
  a51:=isAgg237
  z51:=sizeOf237
  v51:=zeroValue237
  t146:=underlying243
  a146:=isAgg243
  z146:=sizeOf243
  v146:=zeroValue243
  g1:=by kernel_rfl }
open Go.RowKit Go.Lib in
theorem Tryz.strings_Count_one (s : ByteArray) (c : UInt8) (w : World) :
    Calls Tryz.prog 45 #[.string s, .string ⟨#[c]⟩] w fun e w' => e = .returned (.int .i64 (Lib.countByte s.data.toList c)) ∧ w' = w:=Any.strings_Count_one Tryz.lays138 s c w
def Tryz.lays99_ren : Go.Shelf.Ren:=⟨fun | 99 => 106 | 206 => 162 | n => n, fun | 9 => 9 | 4 => 4 | 3 => 3 | n => n, fun | n => n⟩
theorem Tryz.lays99 : Go.Proofs.Lays.n99 Tryz.prog Tryz.lays99_ren:={
  mixed:=by kernel_rfl
  f99:=hT func106 (by kernel_rfl)
  f206:=hT func162 (by kernel_rfl)
  t3:=underlying3
  a3:=isAgg3
  z3:=sizeOf3
  v3:=zeroValue3
  t4:=underlying4
  a4:=isAgg4
  z4:=sizeOf4
  v4:=zeroValue4
  t9:=underlying9
  a9:=isAgg9
  z9:=sizeOf9
  v9:=zeroValue9 }
open Go.RowKit Go.Lib in
theorem Tryz.strings_HasPrefix (s p : ByteArray) (w : World) :
    Calls Tryz.prog 106 #[.string s, .string p] w fun e w' => e = .returned (.bool (Lib.hasPrefix s.data.toList p.data.toList)) ∧ w' = w:=Any.strings_HasPrefix Tryz.lays99 s p w
def Tryz.lays100_ren : Go.Shelf.Ren:=⟨fun | 100 => 193 | 207 => 172 | n => n, fun | 9 => 9 | 4 => 4 | 3 => 3 | n => n, fun | n => n⟩
theorem Tryz.lays100 : Go.Proofs.Lays.n100 Tryz.prog Tryz.lays100_ren:={
  mixed:=by kernel_rfl
  f100:=hT func193 (by kernel_rfl)
  f207:=hT func172 (by kernel_rfl)
  t3:=underlying3
  a3:=isAgg3
  z3:=sizeOf3
  v3:=zeroValue3
  t4:=underlying4
  a4:=isAgg4
  z4:=sizeOf4
  v4:=zeroValue4
  t9:=underlying9
  a9:=isAgg9
  z9:=sizeOf9
  v9:=zeroValue9 }
open Go.RowKit Go.Lib in
theorem Tryz.strings_HasSuffix (s p : ByteArray) (w : World) (hs : s.size ≤ 9223372036854775807) :
    Calls Tryz.prog 193 #[.string s, .string p] w fun e w' => e = .returned (.bool (Lib.hasSuffix s.data.toList p.data.toList)) ∧ w' = w:=Any.strings_HasSuffix Tryz.lays100 s p w hs
def Tryz.lays101_ren : Go.Shelf.Ren:=⟨fun | 101 => 180 | 208 => 205 | 206 => 162 | n => n, fun | 9 => 9 | 4 => 4 | 3 => 3 | n => n, fun | n => n⟩
theorem Tryz.lays101 : Go.Proofs.Lays.n101 Tryz.prog Tryz.lays101_ren:={
  mixed:=by kernel_rfl
  f101:=hT func180 (by kernel_rfl)
  f206:=hT func162 (by kernel_rfl)
  f208:=hT func205 (by kernel_rfl)
  t3:=underlying3
  a3:=isAgg3
  z3:=sizeOf3
  v3:=zeroValue3
  t4:=underlying4
  a4:=isAgg4
  z4:=sizeOf4
  v4:=zeroValue4
  t9:=underlying9
  a9:=isAgg9
  z9:=sizeOf9
  v9:=zeroValue9 }
open Go.RowKit Go.Lib in
theorem Tryz.strings_TrimPrefix (s p : ByteArray) (w : World) :
    Calls Tryz.prog 180 #[.string s, .string p] w fun e w' => e = .returned (.string ⟨(Lib.trimPrefix s.data.toList p.data.toList).toArray⟩) ∧ w' = w:=Any.strings_TrimPrefix Tryz.lays101 s p w
def Tryz.lays102_ren : Go.Shelf.Ren:=⟨fun | 102 => 69 | 209 => 121 | 207 => 172 | n => n, fun | 9 => 9 | 4 => 4 | 3 => 3 | n => n, fun | n => n⟩
theorem Tryz.lays102 : Go.Proofs.Lays.n102 Tryz.prog Tryz.lays102_ren:={
  mixed:=by kernel_rfl
  f102:=hT func69 (by kernel_rfl)
  f207:=hT func172 (by kernel_rfl)
  f209:=hT func121 (by kernel_rfl)
  t3:=underlying3
  a3:=isAgg3
  z3:=sizeOf3
  v3:=zeroValue3
  t4:=underlying4
  a4:=isAgg4
  z4:=sizeOf4
  v4:=zeroValue4
  t9:=underlying9
  a9:=isAgg9
  z9:=sizeOf9
  v9:=zeroValue9 }
open Go.RowKit Go.Lib in
theorem Tryz.strings_TrimSuffix (s p : ByteArray) (w : World) (hs : s.size ≤ 9223372036854775807) :
    Calls Tryz.prog 69 #[.string s, .string p] w fun e w' => e = .returned (.string ⟨(Lib.trimSuffix s.data.toList p.data.toList).toArray⟩) ∧ w' = w:=Any.strings_TrimSuffix Tryz.lays102 s p w hs
def Tryz.lays157_ren : Go.Shelf.Ren:=⟨fun | 157 => 57 | 229 => 104 | 199 => 105 | 261 => 161 | 311 => 194 | 312 => 195 | n => n, fun | 9 => 9 | 31 => 39 | 3 => 3 | 5 => 5 | 4 => 4 | 119 => 188 | 0 => 0 | 40 => 190 | 152 => 234 | 21 => 21 | 154 => 236 | 51 => 237 | 141 => 239 | 196 => 268 | 193 => 265 | 198 => 271 | 49 => 269 | 194 => 266 | 201 => 274 | 226 => 299 | 46 => 191 | 227 => 300 | n => n, fun | 0 => 0 | 6 => 3 | n => n⟩
theorem Tryz.lays157 : Go.Proofs.Lays.n157 Tryz.prog Tryz.lays157_ren:={
  mixed:=by kernel_rfl
  f157:=hT func57 (by kernel_rfl)
  f199:=hT func105 (by kernel_rfl)
  f229:=hT func104 (by kernel_rfl)
  f261:=hT func161 (by kernel_rfl)
  f311:=hT func194 (by kernel_rfl)
  f312:=hT func195 (by kernel_rfl)
  t0:=underlying0
  a0:=isAgg0
  z0:=sizeOf0
  v0:=zeroValue0
  t3:=underlying3
  a3:=isAgg3
  z3:=sizeOf3
  v3:=zeroValue3
  t4:=underlying4
  a4:=isAgg4
  z4:=sizeOf4
  v4:=zeroValue4
  t5:=underlying5
  a5:=isAgg5
  z5:=sizeOf5
  v5:=zeroValue5
  t9:=underlying9
  a9:=isAgg9
  z9:=sizeOf9
  v9:=zeroValue9
  t21:=underlying21
  a21:=isAgg21
  z21:=sizeOf21
  v21:=zeroValue21
  t31:=underlying39
  a31:=isAgg39
  z31:=sizeOf39
  v31:=zeroValue39
  t40:=underlying190
  a40:=isAgg190
  z40:=sizeOf190
  v40:=zeroValue190
  t46:=underlying191
  a46:=isAgg191
  z46:=sizeOf191
  v46:=zeroValue191
  t49:=underlying269
  a49:=isAgg269
  z49:=sizeOf269
  v49:=zeroValue269
  t51:=underlying237
  a51:=isAgg237
  z51:=sizeOf237
  v51:=zeroValue237
  t119:=underlying188
  a119:=isAgg188
  z119:=sizeOf188
  t141:=underlying239
  a141:=isAgg239
  z141:=sizeOf239
  v141:=zeroValue239
  t152:=underlying234
  a152:=isAgg234
  z152:=sizeOf234
  v152:=zeroValue234
  t154:=underlying236
  a154:=isAgg236
  z154:=sizeOf236
  v154:=zeroValue236
  t193:=underlying265
  a193:=isAgg265
  z193:=sizeOf265
  v193:=zeroValue265
  t194:=underlying266
  a194:=isAgg266
  z194:=sizeOf266
  v194:=zeroValue266
  t196:=underlying268
  a196:=isAgg268
  z196:=sizeOf268
  v196:=zeroValue268
  t198:=underlying271
  a198:=isAgg271
  z198:=sizeOf271
  v198:=zeroValue271
  t201:=underlying274
  a201:=isAgg274
  z201:=sizeOf274
  v201:=zeroValue274
  t226:=underlying299
  a226:=isAgg299
  z226:=sizeOf299
  v226:=zeroValue299
  t227:=underlying300
  a227:=isAgg300
  z227:=sizeOf300
  v227:=zeroValue300
  g0:=by kernel_rfl
  g6:=by kernel_rfl }
open Go.RowKit Go.Lib in
theorem Tryz.strings_Fields (s : ByteArray) (w : World) (hs : s.size < 4294967281) (hascii : ∀ (j : Nat) b, s.data.toList[j]? = some b → b.toNat < 128) (htab : Lib.TabIs Tryz.prog w "strings.asciiSpace" .u8 Lib.asciiSpaceTab) :
    Calls Tryz.prog 57 #[.string s] w fun e w' =>
      e = .returned (.slice (some ⟨w.heap.size, 0, none⟩) (Lib.fields s.data.toList).length (Lib.fields s.data.toList).length) ∧ w' = w.alloc (.cells ((Lib.fields s.data.toList).map fun l => Value.string ⟨l.toArray⟩).toArray 9):=Any.strings_Fields Tryz.lays157 (by kernel_rfl) (by kernel_rfl) s w hs hascii htab
def Tryz.lays151_ren : Go.Shelf.Ren:=⟨fun | 151 => 74 | 152 => 131 | 137 => 109 | 119 => 176 | 224 => 177 | 225 => 178 | 217 => 165 | 266 => 201 | n => n, fun | 9 => 9 | 21 => 21 | 4 => 4 | 3 => 3 | 5 => 5 | 0 => 0 | 46 => 191 | n => n, fun | n => n⟩
theorem Tryz.lays151 : Go.Proofs.Lays.n151 Tryz.prog Tryz.lays151_ren:={
  mixed:=by kernel_rfl
  f119:=hT func176 (by kernel_rfl)
  f137:=hT func109 (by kernel_rfl)
  f151:=hT func74 (by kernel_rfl)
  f152:=hT func131 (by kernel_rfl)
  f217:=hT func165 (by kernel_rfl)
  f224:=hT func177 (by kernel_rfl)
  f225:=hT func178 (by kernel_rfl)
  f266:=hT func201 (by kernel_rfl)
  t0:=underlying0
  a0:=isAgg0
  z0:=sizeOf0
  v0:=zeroValue0
  t3:=underlying3
  a3:=isAgg3
  z3:=sizeOf3
  v3:=zeroValue3
  t4:=underlying4
  a4:=isAgg4
  z4:=sizeOf4
  v4:=zeroValue4
  t5:=underlying5
  a5:=isAgg5
  z5:=sizeOf5
  v5:=zeroValue5
  t9:=underlying9
  a9:=isAgg9
  z9:=sizeOf9
  v9:=zeroValue9
  t21:=underlying21
  a21:=isAgg21
  z21:=sizeOf21
  v21:=zeroValue21
  t46:=underlying191
  a46:=isAgg191
  z46:=sizeOf191
  v46:=zeroValue191 }
open Go.RowKit Go.Lib in
theorem Tryz.strings_ContainsRune_ascii (s : ByteArray) (r : Int) (w : World) (h0 : 0 ≤ r) (h1 : r < 128) :
    Calls Tryz.prog 74 #[.string s, .int .i32 r] w fun e w' => e = .returned (.bool (decide (0 ≤ Lib.indexByte s.data.toList r.toNat.toUInt8))) ∧ w' = w:=Any.strings_ContainsRune_ascii Tryz.lays151 s r w h0 h1
def Tryz.lays150_ren : Go.Shelf.Ren:=⟨fun | 150 => 64 | 153 => 114 | 152 => 131 | 226 => 170 | 227 => 118 | 228 => 171 | 137 => 109 | 119 => 176 | 224 => 177 | 225 => 178 | 217 => 165 | 266 => 201 | n => n, fun | 9 => 9 | 4 => 4 | 3 => 3 | 5 => 5 | 21 => 21 | 117 => 200 | 116 => 199 | 0 => 0 | 46 => 191 | 124 => 203 | n => n, fun | n => n⟩
theorem Tryz.lays150 : Go.Proofs.Lays.n150 Tryz.prog Tryz.lays150_ren:={
  mixed:=by kernel_rfl
  f119:=hT func176 (by kernel_rfl)
  f137:=hT func109 (by kernel_rfl)
  f150:=hT func64 (by kernel_rfl)
  f152:=hT func131 (by kernel_rfl)
  f153:=hT func114 (by kernel_rfl)
  f217:=hT func165 (by kernel_rfl)
  f224:=hT func177 (by kernel_rfl)
  f225:=hT func178 (by kernel_rfl)
  f226:=hT func170 (by kernel_rfl)
  f227:=hT func118 (by kernel_rfl)
  f228:=hT func171 (by kernel_rfl)
  f266:=hT func201 (by kernel_rfl)
  t0:=underlying0
  a0:=isAgg0
  z0:=sizeOf0
  v0:=zeroValue0
  t3:=underlying3
  a3:=isAgg3
  z3:=sizeOf3
  v3:=zeroValue3
  t4:=underlying4
  a4:=isAgg4
  z4:=sizeOf4
  v4:=zeroValue4
  t5:=underlying5
  a5:=isAgg5
  z5:=sizeOf5
  v5:=zeroValue5
  t9:=underlying9
  a9:=isAgg9
  z9:=sizeOf9
  v9:=zeroValue9
  t21:=underlying21
  a21:=isAgg21
  z21:=sizeOf21
  v21:=zeroValue21
  t46:=underlying191
  a46:=isAgg191
  z46:=sizeOf191
  v46:=zeroValue191
  t116:=underlying199
  a116:=isAgg199
  z116:=sizeOf199
  t117:=underlying200
  a117:=isAgg200
  z117:=sizeOf200
  v117:=zeroValue200
  t124:=underlying203
  a124:=isAgg203
  z124:=sizeOf203
  v124:=zeroValue203 }
open Go.RowKit Go.Lib in
theorem Tryz.strings_ContainsAny_laid (s chars : ByteArray) (w : World) (hs : s.size < 4294967281) (hcs : chars.size < 4294967281) (has : ∀ (j : Nat) b, s.data.toList[j]? = some b → b.toNat < 128) (hac : ∀ (j : Nat) b, chars.data.toList[j]? = some b → b.toNat < 128) :
    Calls Tryz.prog 64 #[.string s, .string chars] w fun e w' => e = .returned (.bool (Lib.containsAny s.data.toList chars.data.toList)) ∧ Below w.heap.size w w':=Any.strings_ContainsAny_laid Tryz.lays150 (by kernel_rfl) s chars w hs hcs has hac
def Tryz.lays212_ren : Go.Shelf.Ren:=⟨fun | 212 => 111 | 263 => 167 | 264 => 168 | n => n, fun | 46 => 191 | 51 => 237 | 146 => 243 | 53 => 245 | 148 => 246 | n => n, fun | n => n⟩
theorem Tryz.lays212 : Go.Proofs.Lays.n212 Tryz.prog Tryz.lays212_ren:={
  mixed:=by kernel_rfl
  f212:=hT func111 (by kernel_rfl)
  f263:=hT func167 (by kernel_rfl)
  f264:=hT func168 (by kernel_rfl)
  t46:=underlying191
  a46:=isAgg191
  z46:=sizeOf191
  v46:=zeroValue191
  t51:=underlying237
  a51:=isAgg237
  z51:=sizeOf237
  v51:=zeroValue237
  t53:=underlying245
  a53:=isAgg245
  z53:=sizeOf245
  v53:=zeroValue245
  t146:=underlying243
  a146:=isAgg243
  z146:=sizeOf243
  v146:=zeroValue243
  t148:=underlying246
  a148:=isAgg246
  z148:=sizeOf246
  v148:=zeroValue246 }
open Go.RowKit Go.Lib in
theorem Tryz.bits_Mul (x y : Nat) (hx : x < 18446744073709551616) (hy : y < 18446744073709551616) (w : World) :
    Calls Tryz.prog 111 #[.int .u64 x, .int .u64 y] w fun e w' => e = .returned (.tuple #[.int .u64 ((x * y / 18446744073709551616 : Nat) : Int), .int .u64 ((x * y % 18446744073709551616 : Nat) : Int)]) ∧ w' = w:=Any.bits_Mul Tryz.lays212 x y hx hy w
def Tryz.lays105_ren : Go.Shelf.Ren:=⟨fun | 105 => 61 | 212 => 111 | 99 => 106 | 165 => 112 | 166 => 60 | 170 => 113 | 169 => 62 | 263 => 167 | 264 => 168 | 206 => 162 | 240 => 110 | 241 => 169 | 276 => 166 | 277 => 143 | n => n, fun | 9 => 9 | 3 => 3 | 4 => 4 | 20 => 20 | 0 => 0 | 46 => 191 | 109 => 192 | 5 => 5 | 72 => 134 | 76 => 141 | 51 => 237 | 146 => 243 | 53 => 245 | 148 => 246 | 70 => 132 | 37 => 22 | 75 => 140 | 127 => 196 | 164 => 241 | 80 => 144 | n => n, fun | n => n⟩
theorem Tryz.lays105 : Go.Proofs.Lays.n105 Tryz.prog Tryz.lays105_ren:={
  mixed:=by kernel_rfl
  f99:=hT func106 (by kernel_rfl)
  f105:=hT func61 (by kernel_rfl)
  f165:=hT func112 (by kernel_rfl)
  f166:=hT func60 (by kernel_rfl)
  f169:=hT func62 (by kernel_rfl)
  f170:=hT func113 (by kernel_rfl)
  f206:=hT func162 (by kernel_rfl)
  f212:=hT func111 (by kernel_rfl)
  f240:=hT func110 (by kernel_rfl)
  f241:=hT func169 (by kernel_rfl)
  f263:=hT func167 (by kernel_rfl)
  f264:=hT func168 (by kernel_rfl)
  f276:=hT func166 (by kernel_rfl)
  f277:=hT func143 (by kernel_rfl)
  t0:=underlying0
  a0:=isAgg0
  z0:=sizeOf0
  v0:=zeroValue0
  t3:=underlying3
  a3:=isAgg3
  z3:=sizeOf3
  v3:=zeroValue3
  t4:=underlying4
  a4:=isAgg4
  z4:=sizeOf4
  v4:=zeroValue4
  t5:=underlying5
  a5:=isAgg5
  z5:=sizeOf5
  v5:=zeroValue5
  t9:=underlying9
  a9:=isAgg9
  z9:=sizeOf9
  v9:=zeroValue9
  t20:=underlying20
  a20:=isAgg20
  z20:=sizeOf20
  v20:=zeroValue20
  t37:=underlying22
  a37:=isAgg22
  z37:=sizeOf22
  v37:=zeroValue22
  t46:=underlying191
  a46:=isAgg191
  z46:=sizeOf191
  v46:=zeroValue191
  t51:=underlying237
  a51:=isAgg237
  z51:=sizeOf237
  v51:=zeroValue237
  t53:=underlying245
  a53:=isAgg245
  z53:=sizeOf245
  v53:=zeroValue245
  t70:=underlying132
  a70:=isAgg132
  z70:=sizeOf132
  v70:=zeroValue132
  t72:=underlying134
  a72:=isAgg134
  z72:=sizeOf134
  v72:=zeroValue134
  t75:=underlying140
  a75:=isAgg140
  z75:=sizeOf140
  v75:=zeroValue140
  t76:=underlying141
  a76:=isAgg141
  z76:=sizeOf141
  v76:=zeroValue141
  t109:=underlying192
  a109:=isAgg192
  z109:=sizeOf192
  v109:=zeroValue192
  t127:=underlying196
  a127:=isAgg196
  z127:=sizeOf196
  v127:=zeroValue196
  t146:=underlying243
  a146:=isAgg243
  z146:=sizeOf243
  v146:=zeroValue243
  t148:=underlying246
  a148:=isAgg246
  z148:=sizeOf246
  v148:=zeroValue246
  t164:=underlying241
  a164:=isAgg241
  z164:=sizeOf241
  v164:=zeroValue241 }
theorem Tryz.Builder_Extra_105 : Builder.Extra Tryz.prog Tryz.lays105_ren:={
  sizeBuilder:=by kernel_rfl
  liesBuilder:=by kernel_rfl
  t5:=underlying5
  a5:=isAgg5
  z5:=sizeOf5
  v5:=zeroValue5
  infoByte:=by kernel_rfl
  cellsByte:=by kernel_rfl
  sizeByte:=by kernel_rfl
  neB5:=by decide }
open Go.RowKit Go.Lib in
theorem Tryz.strings_Repeat (s : ByteArray) (c : Nat) (w : World) (hc : c ≤ 9223372036854775807) (hlen : s.size * c ≤ 140737488355328) :
    Calls Tryz.prog 61 #[.string s, .int .i64 c] w fun e w' => e = .returned (.string ⟨(Lib.repeatL s.data.toList c).toArray⟩) ∧ Below w.heap.size w w':=Any.strings_Repeat Tryz.lays105 Tryz.Builder_Extra_105 s c w hc hlen
end Go.Proofs
