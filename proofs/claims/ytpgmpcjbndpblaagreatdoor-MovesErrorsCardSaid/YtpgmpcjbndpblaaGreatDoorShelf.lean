/-
  Contracts of the library functions that the law reaches.
-/
import Derived.Shelf.Strings.Builder1
import Derived.Shelf.Strings.Builder2
import Derived.Shelf.Strings.Trim
import Derived.Shelf.Small.Utf8
import Derived.Shelf.Small.Strs
import Derived.Shelf.Small.Wraps
import Derived.Shelf.Strings.BuilderF
import Derived.Shelf.Strings.BuilderK
import Derived.Shelf.Strings.BuilderRune
import Derived.Shelf.Strings.Builder2Cap
import Derived.Shelf.Strconv.Atoi
import Derived.Shelf.Strconv.Itoa0
import Derived.Shelf.Strconv.Itoa1
import Derived.Shelf.LaysM
import Derived.Shelf.Strconv.Itoa2
import Derived.Shelf.Strconv.Itoa3
import Derived.Shelf.Strconv.Itoa4
import Derived.Shelf.Strings.Search1
import Derived.Shelf.Strings.Search2
import Derived.Shelf.Strings.Search3
import Derived.Shelf.Strings.Cut
import Derived.Shelf.Strings.Count
import Derived.Shelf.Strings.Shaped
import Derived.Shelf.Strings.Prefix
import Derived.Shelf.Strings.Runes
import Derived.Shelf.Strings.IndexAny
import Derived.Shelf.Strings.AsciiSet
import Derived.Shelf.Strings.IndexAnyAll
import Derived.Shelf.Bits.Mul64
import Derived.Shelf.Strings.Repeat
import Derived.Shelf.Unicode.DecodeSlow
import Derived.Shelf.Unicode.DecodeAny
import Derived.Shelf.Strings.MapAny
import Derived.Shelf.Strings.BuilderCap
import Derived.Shelf.Strings.MapGrows
import Derived.Shelf.Bytes.SlSearch0
import Derived.Shelf.Bytes.SlEqualAll
import Derived.Shelf.Bytes.Small
import Derived.Test.YtpgmpcjbndpblaaGreatDoorProg
namespace Go.Proofs
open Go.Shelf
open Tryz
theorem hT{α:Type}{a:Option α}{b c:α}(h:a=some b)(e:b=c):a=some c:=h.trans (congrArg some e)
def Tryz.lays161_ren : Go.Shelf.Ren:=⟨fun | 161 => 76 | 231 => 93 | 227 => 95 | 233 => 96 | 235 => 98 | 228 => 136 | 197 => 125 | 151 => 82 | 260 => 162 | 152 => 130 | 137 => 119 | 119 => 164 | 224 => 155 | 225 => 154 | 217 => 153 | 266 => 173 | n => n, fun | 9 => 9 | 4 => 4 | 3 => 3 | 5 => 5 | 117 => 143 | 116 => 142 | 0 => 0 | 124 => 146 | 105 => 167 | 21 => 21 | 119 => 203 | 46 => 88 | 139 => 206 | 138 => 205 | n => n, fun | 3 => 5 | 4 => 6 | n => n⟩
theorem Tryz.lays161 : Go.Proofs.Lays.n161 Tryz.prog Tryz.lays161_ren:={
  mixed:=by kernel_rfl
  f119:=hT func164 (by kernel_rfl)
  f137:=hT func119 (by kernel_rfl)
  f151:=hT func82 (by kernel_rfl)
  f152:=hT func130 (by kernel_rfl)
  f161:=hT func76 (by kernel_rfl)
  f197:=hT func125 (by kernel_rfl)
  f217:=hT func153 (by kernel_rfl)
  f224:=hT func155 (by kernel_rfl)
  f225:=hT func154 (by kernel_rfl)
  f227:=hT func95 (by kernel_rfl)
  f228:=hT func136 (by kernel_rfl)
  f231:=hT func93 (by kernel_rfl)
  f233:=hT func96 (by kernel_rfl)
  f235:=hT func98 (by kernel_rfl)
  f260:=hT func162 (by kernel_rfl)
  f266:=hT func173 (by kernel_rfl)
  t0:=underlying0
  a0:=isAgg0
  z0:=sizeOf0
  v0:=zeroValue0
  t3:=underlying3
  a3:=isAgg3
  z3:=sizeOf3
  v3:=zeroValue3
  t4:=underlying4
  a4:=isAgg4
  z4:=sizeOf4
  v4:=zeroValue4
  t5:=underlying5
  a5:=isAgg5
  z5:=sizeOf5
  v5:=zeroValue5
  t9:=underlying9
  a9:=isAgg9
  z9:=sizeOf9
  v9:=zeroValue9
  t21:=underlying21
  a21:=isAgg21
  z21:=sizeOf21
  v21:=zeroValue21
  t46:=underlying88
  a46:=isAgg88
  z46:=sizeOf88
  v46:=zeroValue88
  t105:=underlying167
  a105:=isAgg167
  z105:=sizeOf167
  v105:=zeroValue167
  t116:=underlying142
  a116:=isAgg142
  z116:=sizeOf142
  t117:=underlying143
  a117:=isAgg143
  z117:=sizeOf143
  v117:=zeroValue143
  t119:=underlying203
  a119:=isAgg203
  z119:=sizeOf203
  t124:=underlying146
  a124:=isAgg146
  z124:=sizeOf146
  v124:=zeroValue146
  t138:=underlying205
  a138:=isAgg205
  z138:=sizeOf205
  v138:=zeroValue205
  t139:=underlying206
  a139:=isAgg206
  z139:=sizeOf206
  v139:=zeroValue206
  g3:=by kernel_rfl
  g4:=by kernel_rfl }
def Tryz.lays162_ren : Go.Shelf.Ren:=⟨fun | 162 => 78 | 232 => 94 | 227 => 95 | 234 => 97 | 236 => 99 | 228 => 136 | 271 => 137 | 151 => 82 | 120 => 165 | 197 => 125 | 152 => 130 | 260 => 162 | 137 => 119 | 119 => 164 | 224 => 155 | 225 => 154 | 217 => 153 | 266 => 173 | n => n, fun | 9 => 9 | 4 => 4 | 3 => 3 | 5 => 5 | 117 => 143 | 116 => 142 | 0 => 0 | 124 => 146 | 21 => 21 | 105 => 167 | 46 => 88 | 119 => 203 | 139 => 206 | 138 => 205 | n => n, fun | 3 => 5 | 4 => 6 | n => n⟩
theorem Tryz.lays162 : Go.Proofs.Lays.n162 Tryz.prog Tryz.lays162_ren:={
  mixed:=by kernel_rfl
  f119:=hT func164 (by kernel_rfl)
  f120:=hT func165 (by kernel_rfl)
  f137:=hT func119 (by kernel_rfl)
  f151:=hT func82 (by kernel_rfl)
  f152:=hT func130 (by kernel_rfl)
  f162:=hT func78 (by kernel_rfl)
  f197:=hT func125 (by kernel_rfl)
  f217:=hT func153 (by kernel_rfl)
  f224:=hT func155 (by kernel_rfl)
  f225:=hT func154 (by kernel_rfl)
  f227:=hT func95 (by kernel_rfl)
  f228:=hT func136 (by kernel_rfl)
  f232:=hT func94 (by kernel_rfl)
  f234:=hT func97 (by kernel_rfl)
  f236:=hT func99 (by kernel_rfl)
  f260:=hT func162 (by kernel_rfl)
  f266:=hT func173 (by kernel_rfl)
  f271:=hT func137 (by kernel_rfl)
  t0:=underlying0
  a0:=isAgg0
  z0:=sizeOf0
  v0:=zeroValue0
  t3:=underlying3
  a3:=isAgg3
  z3:=sizeOf3
  v3:=zeroValue3
  t4:=underlying4
  a4:=isAgg4
  z4:=sizeOf4
  v4:=zeroValue4
  t5:=underlying5
  a5:=isAgg5
  z5:=sizeOf5
  v5:=zeroValue5
  t9:=underlying9
  a9:=isAgg9
  z9:=sizeOf9
  v9:=zeroValue9
  t21:=underlying21
  a21:=isAgg21
  z21:=sizeOf21
  v21:=zeroValue21
  t46:=underlying88
  a46:=isAgg88
  z46:=sizeOf88
  v46:=zeroValue88
  t105:=underlying167
  a105:=isAgg167
  z105:=sizeOf167
  v105:=zeroValue167
  t116:=underlying142
  a116:=isAgg142
  z116:=sizeOf142
  t117:=underlying143
  a117:=isAgg143
  z117:=sizeOf143
  v117:=zeroValue143
  t119:=underlying203
  a119:=isAgg203
  z119:=sizeOf203
  t124:=underlying146
  a124:=isAgg146
  z124:=sizeOf146
  v124:=zeroValue146
  t138:=underlying205
  a138:=isAgg205
  z138:=sizeOf205
  v138:=zeroValue205
  t139:=underlying206
  a139:=isAgg206
  z139:=sizeOf206
  v139:=zeroValue206
  g3:=by kernel_rfl
  g4:=by kernel_rfl }
def Tryz.lays160_ren : Go.Shelf.Ren:=⟨fun | 160 => 44 | 232 => 94 | 231 => 93 | 227 => 95 | 234 => 97 | 233 => 96 | 236 => 99 | 235 => 98 | 228 => 136 | 271 => 137 | 151 => 82 | 197 => 125 | 120 => 165 | 152 => 130 | 260 => 162 | 137 => 119 | 119 => 164 | 224 => 155 | 225 => 154 | 217 => 153 | 266 => 173 | n => n, fun | 9 => 9 | 4 => 4 | 3 => 3 | 5 => 5 | 117 => 143 | 116 => 142 | 0 => 0 | 124 => 146 | 21 => 21 | 105 => 167 | 46 => 88 | 119 => 203 | 139 => 206 | 138 => 205 | n => n, fun | 3 => 5 | 4 => 6 | n => n⟩
theorem Tryz.lays160 : Go.Proofs.Lays.n160 Tryz.prog Tryz.lays160_ren:={
  mixed:=by kernel_rfl
  f119:=hT func164 (by kernel_rfl)
  f120:=hT func165 (by kernel_rfl)
  f137:=hT func119 (by kernel_rfl)
  f151:=hT func82 (by kernel_rfl)
  f152:=hT func130 (by kernel_rfl)
  f160:=hT func44 (by kernel_rfl)
  f197:=hT func125 (by kernel_rfl)
  f217:=hT func153 (by kernel_rfl)
  f224:=hT func155 (by kernel_rfl)
  f225:=hT func154 (by kernel_rfl)
  f227:=hT func95 (by kernel_rfl)
  f228:=hT func136 (by kernel_rfl)
  f231:=hT func93 (by kernel_rfl)
  f232:=hT func94 (by kernel_rfl)
  f233:=hT func96 (by kernel_rfl)
  f234:=hT func97 (by kernel_rfl)
  f235:=hT func98 (by kernel_rfl)
  f236:=hT func99 (by kernel_rfl)
  f260:=hT func162 (by kernel_rfl)
  f266:=hT func173 (by kernel_rfl)
  f271:=hT func137 (by kernel_rfl)
  t0:=underlying0
  a0:=isAgg0
  z0:=sizeOf0
  v0:=zeroValue0
  t3:=underlying3
  a3:=isAgg3
  z3:=sizeOf3
  v3:=zeroValue3
  t4:=underlying4
  a4:=isAgg4
  z4:=sizeOf4
  v4:=zeroValue4
  t5:=underlying5
  a5:=isAgg5
  z5:=sizeOf5
  v5:=zeroValue5
  t9:=underlying9
  a9:=isAgg9
  z9:=sizeOf9
  v9:=zeroValue9
  t21:=underlying21
  a21:=isAgg21
  z21:=sizeOf21
  v21:=zeroValue21
  t46:=underlying88
  a46:=isAgg88
  z46:=sizeOf88
  v46:=zeroValue88
  t105:=underlying167
  a105:=isAgg167
  z105:=sizeOf167
  v105:=zeroValue167
  t116:=underlying142
  a116:=isAgg142
  z116:=sizeOf142
  t117:=underlying143
  a117:=isAgg143
  z117:=sizeOf143
  v117:=zeroValue143
  t119:=underlying203
  a119:=isAgg203
  z119:=sizeOf203
  t124:=underlying146
  a124:=isAgg146
  z124:=sizeOf146
  v124:=zeroValue146
  t138:=underlying205
  a138:=isAgg205
  z138:=sizeOf205
  v138:=zeroValue205
  t139:=underlying206
  a139:=isAgg206
  z139:=sizeOf206
  v139:=zeroValue206
  g3:=by kernel_rfl
  g4:=by kernel_rfl }
def Tryz.lays118_ren : Go.Shelf.Ren:=⟨fun | 118 => 126 | n => n, fun | 21 => 21 | 3 => 3 | 4 => 4 | n => n, fun | n => n⟩
theorem Tryz.lays118 : Go.Proofs.Lays.n118 Tryz.prog Tryz.lays118_ren:={
  mixed:=by kernel_rfl
  f118:=hT func126 (by kernel_rfl)
  t3:=underlying3
  a3:=isAgg3
  z3:=sizeOf3
  v3:=zeroValue3
  t4:=underlying4
  a4:=isAgg4
  z4:=sizeOf4
  v4:=zeroValue4
  t21:=underlying21
  a21:=isAgg21
  z21:=sizeOf21
  v21:=zeroValue21 }
theorem Tryz.utf8_RuneLen (r : Int) (w : World) :
    Calls Tryz.prog 126 #[.int .i32 r] w fun e w' => e = .returned (.int .i64 (Lib.runeLen r)) ∧ w' = w:=Any.utf8_RuneLen Tryz.lays118 r w
def Tryz.lays137_ren : Go.Shelf.Ren:=⟨fun | 137 => 119 | 217 => 153 | 266 => 173 | n => n, fun | 9 => 9 | 5 => 5 | 3 => 3 | n => n, fun | n => n⟩
theorem Tryz.lays137 : Go.Proofs.Lays.n137 Tryz.prog Tryz.lays137_ren:={
  mixed:=by kernel_rfl
  f137:=hT func119 (by kernel_rfl)
  f217:=hT func153 (by kernel_rfl)
  f266:=hT func173 (by kernel_rfl)
  t3:=underlying3
  a3:=isAgg3
  z3:=sizeOf3
  v3:=zeroValue3
  t5:=underlying5
  a5:=isAgg5
  z5:=sizeOf5
  v5:=zeroValue5
  t9:=underlying9
  a9:=isAgg9
  z9:=sizeOf9
  v9:=zeroValue9 }
open Go.RowKit in
theorem Tryz.strings_IndexByte (s : ByteArray) (c : Int) (w : World) :
    Calls Tryz.prog 119 #[.string s, .int .u8 c] w fun e w' => e = .returned (.int .i64 (Lib.indexByte s.data.toList c.toNat.toUInt8)) ∧ w' = w:=Any.strings_IndexByte Tryz.lays137 s c w
def Tryz.lays103_ren : Go.Shelf.Ren:=⟨fun | 103 => 56 | 210 => 113 | 206 => 133 | n => n, fun | 9 => 9 | 4 => 4 | 24 => 91 | 3 => 3 | n => n, fun | n => n⟩
theorem Tryz.lays103 : Go.Proofs.Lays.n103 Tryz.prog Tryz.lays103_ren:={
  mixed:=by kernel_rfl
  f103:=hT func56 (by kernel_rfl)
  f206:=hT func133 (by kernel_rfl)
  f210:=hT func113 (by kernel_rfl)
  t3:=underlying3
  a3:=isAgg3
  z3:=sizeOf3
  v3:=zeroValue3
  t4:=underlying4
  a4:=isAgg4
  z4:=sizeOf4
  v4:=zeroValue4
  t9:=underlying9
  a9:=isAgg9
  z9:=sizeOf9
  v9:=zeroValue9
  t24:=underlying91
  a24:=isAgg91
  z24:=sizeOf91
  v24:=zeroValue91 }
open Go.RowKit in
theorem Tryz.strings_CutPrefix (s p : ByteArray) (w : World) :
    Calls Tryz.prog 56 #[.string s, .string p] w fun e w' => e = .returned (.tuple #[.string ⟨(Lib.trimPrefix s.data.toList p.data.toList).toArray⟩, .bool (Lib.hasPrefix s.data.toList p.data.toList)]) ∧ w' = w:=Any.strings_CutPrefix Tryz.lays103 s p w
def Tryz.lays104_ren : Go.Shelf.Ren:=⟨fun | 104 => 79 | 211 => 124 | 207 => 161 | n => n, fun | 9 => 9 | 4 => 4 | 24 => 91 | 3 => 3 | n => n, fun | n => n⟩
theorem Tryz.lays104 : Go.Proofs.Lays.n104 Tryz.prog Tryz.lays104_ren:={
  mixed:=by kernel_rfl
  f104:=hT func79 (by kernel_rfl)
  f207:=hT func161 (by kernel_rfl)
  f211:=hT func124 (by kernel_rfl)
  t3:=underlying3
  a3:=isAgg3
  z3:=sizeOf3
  v3:=zeroValue3
  t4:=underlying4
  a4:=isAgg4
  z4:=sizeOf4
  v4:=zeroValue4
  t9:=underlying9
  a9:=isAgg9
  z9:=sizeOf9
  v9:=zeroValue9
  t24:=underlying91
  a24:=isAgg91
  z24:=sizeOf91
  v24:=zeroValue91 }
open Go.RowKit in
theorem Tryz.strings_CutSuffix (s p : ByteArray) (w : World) (hs : s.size ≤ 9223372036854775807) :
    Calls Tryz.prog 79 #[.string s, .string p] w fun e w' => e = .returned (.tuple #[.string ⟨(Lib.trimSuffix s.data.toList p.data.toList).toArray⟩, .bool (Lib.hasSuffix s.data.toList p.data.toList)]) ∧ w' = w:=Any.strings_CutSuffix Tryz.lays104 s p w hs
def Tryz.lays172_ren : Go.Shelf.Ren:=⟨fun | 172 => 117 | 244 => 157 | 245 => 158 | 247 => 175 | 279 => 176 | 280 => 177 | 281 => 178 | 282 => 179 | 287 => 184 | 316 => 185 | 171 => 187 | 205 => 186 | 321 => 188 | 322 => 189 | 243 => 190 | 246 => 114 | 283 => 141 | 284 => 142 | 285 => 143 | 286 => 144 | 129 => 168 | 317 => 167 | 318 => 169 | 319 => 170 | 320 => 171 | 337 => 182 | 338 => 183 | n => n, fun | 9 => 9 | 3 => 3 | 75 => 115 | 76 => 116 | 4 => 4 | 5 => 5 | 167 => 197 | 37 => 26 | 0 => 0 | 85 => 198 | 2 => 2 | 168 => 200 | 53 => 161 | 175 => 208 | 46 => 88 | 210 => 212 | 127 => 166 | 145 => 219 | 143 => 217 | 21 => 21 | 171 => 178 | 173 => 181 | 212 => 193 | 51 => 158 | 20 => 20 | 213 => 194 | 232 => 214 | 233 => 215 | 80 => 65 | n => n, fun | 15 => 7 | 16 => 8 | 17 => 4 | 18 => 9 | 19 => 10 | n => n⟩
theorem Tryz.lays172 : Go.Proofs.Lays.n172 Tryz.prog Tryz.lays172_ren:={
  mixed:=by kernel_rfl
  f129:=hT func168 (by kernel_rfl)
  f171:=hT func187 (by kernel_rfl)
  f172:=hT func117 (by kernel_rfl)
  f205:=hT func186 (by kernel_rfl)
  f243:=hT func190 (by kernel_rfl)
  f244:=hT func157 (by kernel_rfl)
  f245:=hT func158 (by kernel_rfl)
  f246:=hT func114 (by kernel_rfl)
  f247:=hT func175 (by kernel_rfl)
  f279:=hT func176 (by kernel_rfl)
  f280:=hT func177 (by kernel_rfl)
  f281:=hT func178 (by kernel_rfl)
  f282:=hT func179 (by kernel_rfl)
  f283:=hT func141 (by kernel_rfl)
  f284:=hT func142 (by kernel_rfl)
  f285:=hT func143 (by kernel_rfl)
  f286:=hT func144 (by kernel_rfl)
  f287:=hT func184 (by kernel_rfl)
  f316:=hT func185 (by kernel_rfl)
  f317:=hT func167 (by kernel_rfl)
  f318:=hT func169 (by kernel_rfl)
  f319:=hT func170 (by kernel_rfl)
  f320:=hT func171 (by kernel_rfl)
  f321:=hT func188 (by kernel_rfl)
  f322:=hT func189 (by kernel_rfl)
  f337:=hT func182 (by kernel_rfl)
  f338:=hT func183 (by kernel_rfl)
  t0:=underlying0
  a0:=isAgg0
  z0:=sizeOf0
  v0:=zeroValue0
  t2:=underlying2
  a2:=isAgg2
  z2:=sizeOf2
  v2:=zeroValue2
  t3:=underlying3
  a3:=isAgg3
  z3:=sizeOf3
  v3:=zeroValue3
  t4:=underlying4
  a4:=isAgg4
  z4:=sizeOf4
  v4:=zeroValue4
  t5:=underlying5
  a5:=isAgg5
  z5:=sizeOf5
  v5:=zeroValue5
  t9:=underlying9
  a9:=isAgg9
  z9:=sizeOf9
  v9:=zeroValue9
  t20:=underlying20
  a20:=isAgg20
  z20:=sizeOf20
  v20:=zeroValue20
  t21:=underlying21
  a21:=isAgg21
  z21:=sizeOf21
  v21:=zeroValue21
  t37:=underlying26
  a37:=isAgg26
  z37:=sizeOf26
  v37:=zeroValue26
  t46:=underlying88
  a46:=isAgg88
  z46:=sizeOf88
  v46:=zeroValue88
  t51:=underlying158
  a51:=isAgg158
  z51:=sizeOf158
  v51:=zeroValue158
  t53:=underlying161
  a53:=isAgg161
  z53:=sizeOf161
  v53:=zeroValue161
  t75:=underlying115
  a75:=isAgg115
  z75:=sizeOf115
  v75:=zeroValue115
  t76:=underlying116
  a76:=isAgg116
  z76:=sizeOf116
  v76:=zeroValue116
  t85:=underlying198
  a85:=isAgg198
  z85:=sizeOf198
  v85:=zeroValue198
  t127:=underlying166
  a127:=isAgg166
  z127:=sizeOf166
  v127:=zeroValue166
  t143:=underlying217
  a143:=isAgg217
  z143:=sizeOf217
  v143:=zeroValue217
  t145:=underlying219
  a145:=isAgg219
  z145:=sizeOf219
  v145:=zeroValue219
  t167:=underlying197
  a167:=isAgg197
  z167:=sizeOf197
  v167:=zeroValue197
  t168:=underlying200
  a168:=isAgg200
  z168:=sizeOf200
  v168:=zeroValue200
  t171:=underlying178
  a171:=isAgg178
  z171:=sizeOf178
  v171:=zeroValue178
  t173:=underlying181
  a173:=isAgg181
  z173:=sizeOf181
  v173:=zeroValue181
  t175:=underlying208
  a175:=isAgg208
  z175:=sizeOf208
  v175:=zeroValue208
  t210:=underlying212
  a210:=isAgg212
  z210:=sizeOf212
  v210:=zeroValue212
  t212:=underlying193
  a212:=isAgg193
  z212:=sizeOf193
  v212:=zeroValue193
  t213:=underlying194
  a213:=isAgg194
  z213:=sizeOf194
  t232:=underlying214
  a232:=isAgg214
  z232:=sizeOf214
  v232:=zeroValue214
  t233:=underlying215
  a233:=isAgg215
  z233:=sizeOf215
  v233:=zeroValue215
  g15:=by kernel_rfl
  g16:=by kernel_rfl
  g17:=by kernel_rfl
  g18:=by kernel_rfl
  g19:=by kernel_rfl }
open Go.RowKit in
theorem Tryz.strconv_Atoi (s : ByteArray) (n : Int) (hl : s.size ≤ 18) (h : Lib.atoi s.data.toList = some n) (w : World) :
    Calls Tryz.prog 117 #[.string s] w fun e w' => e = .returned (.tuple #[.int .i64 n, .nilIface]) ∧ ∃ t, w' = Lib.bytesWorld w 5 t:=Any.strconv_Atoi Tryz.lays172 s n hl h w
def Tryz.laysM173_ren : Go.Shelf.Ren:=⟨fun | 173 => 57 | 246 => 114 | 283 => 141 | 284 => 142 | 285 => 143 | 286 => 144 | 129 => 168 | 317 => 167 | 318 => 169 | 319 => 170 | 320 => 171 | 337 => 182 | 338 => 183 | n => n, fun | 2 => 2 | 3 => 3 | 9 => 9 | 4 => 4 | 171 => 178 | 0 => 0 | 53 => 161 | 37 => 26 | 5 => 5 | 173 => 181 | 212 => 193 | 51 => 158 | 20 => 20 | 213 => 194 | 46 => 88 | 232 => 214 | 233 => 215 | n => n, fun | 17 => 4 | 18 => 9 | 19 => 10 | n => n⟩
theorem Tryz.laysM173 : Go.Proofs.LaysM.n173 Tryz.prog Tryz.laysM173_ren:={
  mixed:=by kernel_rfl
  f129:=hT func168 (by kernel_rfl)
  f173:=hT func57 (by kernel_rfl)
  f246:=hT func114 (by kernel_rfl)
  f283:=hT func141 (by kernel_rfl)
  f284:=hT func142 (by kernel_rfl)
  f285:=hT func143 (by kernel_rfl)
  f286:=hT func144 (by kernel_rfl)
  f317:=hT func167 (by kernel_rfl)
  f318:=hT func169 (by kernel_rfl)
  f319:=hT func170 (by kernel_rfl)
  f320:=hT func171 (by kernel_rfl)
  f337:=hT func182 (by kernel_rfl)
  f338:=hT func183 (by kernel_rfl)
  t0:=underlying0
  a0:=isAgg0
  z0:=sizeOf0
  v0:=zeroValue0
  t2:=underlying2
  a2:=isAgg2
  z2:=sizeOf2
  v2:=zeroValue2
  t3:=underlying3
  a3:=isAgg3
  z3:=sizeOf3
  v3:=zeroValue3
  t4:=underlying4
  a4:=isAgg4
  z4:=sizeOf4
  v4:=zeroValue4
  t5:=underlying5
  a5:=isAgg5
  z5:=sizeOf5
  v5:=zeroValue5
  t9:=underlying9
  a9:=isAgg9
  z9:=sizeOf9
  v9:=zeroValue9
  t20:=underlying20
  a20:=isAgg20
  z20:=sizeOf20
  v20:=zeroValue20
  t37:=underlying26
  a37:=isAgg26
  z37:=sizeOf26
  v37:=zeroValue26
  t46:=underlying88
  a46:=isAgg88
  z46:=sizeOf88
  v46:=zeroValue88
  t51:=underlying158
  a51:=isAgg158
  z51:=sizeOf158
  v51:=zeroValue158
  t53:=underlying161
  a53:=isAgg161
  z53:=sizeOf161
  v53:=zeroValue161
  t171:=underlying178
  a171:=isAgg178
  z171:=sizeOf178
  v171:=zeroValue178
  t173:=underlying181
  a173:=isAgg181
  z173:=sizeOf181
  v173:=zeroValue181
  t212:=underlying193
  a212:=isAgg193
  z212:=sizeOf193
  v212:=zeroValue193
  t213:=underlying194
  a213:=isAgg194
  z213:=sizeOf194
  t232:=underlying214
  a232:=isAgg214
  z232:=sizeOf214
  v232:=zeroValue214
  t233:=underlying215
  a233:=isAgg215
  z233:=sizeOf215
  v233:=zeroValue215
  g17:=by kernel_rfl
  g18:=by kernel_rfl
  g19:=by kernel_rfl
  i0:=by kernel_rfl
  i2:=by kernel_rfl
  i3:=by kernel_rfl
  i4:=by kernel_rfl
  i5:=by kernel_rfl
  i9:=by kernel_rfl
  i20:=by kernel_rfl
  i37:=by kernel_rfl
  i46:=by kernel_rfl
  i51:=by kernel_rfl
  i53:=by kernel_rfl
  i171:=by kernel_rfl
  i173:=by kernel_rfl
  i212:=by kernel_rfl
  i232:=by kernel_rfl
  i233:=by kernel_rfl
  m17:=by kernel_rfl
  m18:=by kernel_rfl
  m19:=by kernel_rfl }
open Go.RowKit Go.Sort Go.Lib in
theorem Tryz.strconv_FormatInt_10 (n : Int) (h0 : -9223372036854775808 ≤ n) (h1 : n ≤ 9223372036854775807) (w : World) (htab : Lib.TabIs Tryz.prog w "internal/strconv.uint64pow10" .u64 Lib.pow10Tab) :
    Calls Tryz.prog 57 #[.int .i64 n, .int .i64 10] w fun e w' => e = .returned (.string ⟨(Lib.itoa n).toArray⟩) ∧ ∃ k os, w' = grow (w.drewN k) os:=Any.strconv_FormatInt_10 Tryz.laysM173 n h0 h1 w htab
def Tryz.lays144_ren : Go.Shelf.Ren:=⟨fun | 144 => 181 | 143 => 67 | 219 => 116 | 217 => 153 | 225 => 154 | 224 => 155 | 267 => 156 | 266 => 173 | 314 => 174 | n => n, fun | 9 => 9 | 4 => 4 | 3 => 3 | 5 => 5 | 46 => 88 | 146 => 159 | 51 => 158 | n => n, fun | 1 => 2 | n => n⟩
theorem Tryz.lays144 : Go.Proofs.Lays.n144 Tryz.prog Tryz.lays144_ren:={
  mixed:=by kernel_rfl
  f143:=hT func67 (by kernel_rfl)
  f144:=hT func181 (by kernel_rfl)
  f217:=hT func153 (by kernel_rfl)
  f219:=hT func116 (by kernel_rfl)
  f224:=hT func155 (by kernel_rfl)
  f225:=hT func154 (by kernel_rfl)
  f266:=hT func173 (by kernel_rfl)
  f267:=hT func156 (by kernel_rfl)
  f314:=hT func174 (by kernel_rfl)
  t3:=underlying3
  a3:=isAgg3
  z3:=sizeOf3
  v3:=zeroValue3
  t4:=underlying4
  a4:=isAgg4
  z4:=sizeOf4
  v4:=zeroValue4
  t5:=underlying5
  a5:=isAgg5
  z5:=sizeOf5
  v5:=zeroValue5
  t9:=underlying9
  a9:=isAgg9
  z9:=sizeOf9
  v9:=zeroValue9
  t46:=underlying88
  a46:=isAgg88
  z46:=sizeOf88
  v46:=zeroValue88
  t51:=underlying158
  a51:=isAgg158
  z51:=sizeOf158
  v51:=zeroValue158
  t146:=underlying159
  a146:=isAgg159
  z146:=sizeOf159
  v146:=zeroValue159
  g1:=by kernel_rfl }
open Go.RowKit Go.Lib in
theorem Tryz.strings_Contains_one (s : ByteArray) (c : UInt8) (w : World) :
    Calls Tryz.prog 181 #[.string s, .string ⟨#[c]⟩] w fun e w' => e = .returned (.bool (decide (0 ≤ Lib.indexByte s.data.toList c))) ∧ w' = w:=Any.strings_Contains_one Tryz.lays144 s c w
def Tryz.lays145_ren : Go.Shelf.Ren:=⟨fun | 145 => 74 | 220 => 122 | 219 => 116 | 217 => 153 | 225 => 154 | 224 => 155 | 267 => 156 | 266 => 173 | 314 => 174 | n => n, fun | 9 => 9 | 4 => 4 | 59 => 120 | 3 => 3 | 5 => 5 | 46 => 88 | 146 => 159 | 51 => 158 | n => n, fun | 1 => 2 | n => n⟩
theorem Tryz.lays145 : Go.Proofs.Lays.n145 Tryz.prog Tryz.lays145_ren:={
  mixed:=by kernel_rfl
  f145:=hT func74 (by kernel_rfl)
  f217:=hT func153 (by kernel_rfl)
  f219:=hT func116 (by kernel_rfl)
  f220:=hT func122 (by kernel_rfl)
  f224:=hT func155 (by kernel_rfl)
  f225:=hT func154 (by kernel_rfl)
  f266:=hT func173 (by kernel_rfl)
  f267:=hT func156 (by kernel_rfl)
  f314:=hT func174 (by kernel_rfl)
  t3:=underlying3
  a3:=isAgg3
  z3:=sizeOf3
  v3:=zeroValue3
  t4:=underlying4
  a4:=isAgg4
  z4:=sizeOf4
  v4:=zeroValue4
  t5:=underlying5
  a5:=isAgg5
  z5:=sizeOf5
  v5:=zeroValue5
  t9:=underlying9
  a9:=isAgg9
  z9:=sizeOf9
  v9:=zeroValue9
  t46:=underlying88
  a46:=isAgg88
  z46:=sizeOf88
  v46:=zeroValue88
  t51:=underlying158
  a51:=isAgg158
  z51:=sizeOf158
  v51:=zeroValue158
  t59:=underlying120
  a59:=isAgg120
  z59:=sizeOf120
  v59:=zeroValue120
  t146:=underlying159
  a146:=isAgg159
  z146:=sizeOf159
  v146:=zeroValue159
  g1:=by kernel_rfl }
open Go.RowKit Go.Lib in
theorem Tryz.strings_Cut (s sep : ByteArray) (m : Int) (w : World) (hs : s.size < 4294967281) (hm : w.cell? ⟨2, 0, none⟩ = some (.int .i64 m)) :
    Calls Tryz.prog 74 #[.string s, .string sep] w fun e w' => e = .returned (.tuple #[.string ⟨(Lib.cut s.data.toList sep.data.toList).1.toArray⟩, .string ⟨(Lib.cut s.data.toList sep.data.toList).2.1.toArray⟩, .bool (Lib.cut s.data.toList sep.data.toList).2.2]) ∧ ∃ n, w' = w.drewN n:=Any.strings_Cut Tryz.lays145 s sep m w hs hm
def Tryz.lays138_ren : Go.Shelf.Ren:=⟨fun | 138 => 34 | 195 => 65 | 218 => 66 | 143 => 67 | 219 => 116 | 217 => 153 | 225 => 154 | 224 => 155 | 267 => 156 | 266 => 173 | 314 => 174 | n => n, fun | 9 => 9 | 3 => 3 | 4 => 4 | 5 => 5 | 0 => 0 | 46 => 88 | 146 => 159 | 51 => 158 | n => n, fun | 1 => 2 | n => n⟩
theorem Tryz.lays138 : Go.Proofs.Lays.n138 Tryz.prog Tryz.lays138_ren:={
  mixed:=by kernel_rfl
  f138:=hT func34 (by kernel_rfl)
  f143:=hT func67 (by kernel_rfl)
  f195:=hT func65 (by kernel_rfl)
  f217:=hT func153 (by kernel_rfl)
  f218:=hT func66 (by kernel_rfl)
  f219:=hT func116 (by kernel_rfl)
  f224:=hT func155 (by kernel_rfl)
  f225:=hT func154 (by kernel_rfl)
  f266:=hT func173 (by kernel_rfl)
  f267:=hT func156 (by kernel_rfl)
  f314:=hT func174 (by kernel_rfl)
  t0:=underlying0
  a0:=isAgg0
  z0:=sizeOf0
  v0:=zeroValue0
  t3:=underlying3
  a3:=isAgg3
  z3:=sizeOf3
  v3:=zeroValue3
  t4:=underlying4
  a4:=isAgg4
  z4:=sizeOf4
  v4:=zeroValue4
  t5:=underlying5
  a5:=isAgg5
  z5:=sizeOf5
  v5:=zeroValue5
  t9:=underlying9
  a9:=isAgg9
  z9:=sizeOf9
  v9:=zeroValue9
  t46:=underlying88
  a46:=isAgg88
  z46:=sizeOf88
  v46:=zeroValue88
  t51:=underlying158
  a51:=isAgg158
  z51:=sizeOf158
  v51:=zeroValue158
  t146:=underlying159
  a146:=isAgg159
  z146:=sizeOf159
  v146:=zeroValue159
  g1:=by kernel_rfl }
open Go.RowKit Go.Lib in
theorem Tryz.strings_Count_one (s : ByteArray) (c : UInt8) (w : World) :
    Calls Tryz.prog 34 #[.string s, .string ⟨#[c]⟩] w fun e w' => e = .returned (.int .i64 (Lib.countByte s.data.toList c)) ∧ w' = w:=Any.strings_Count_one Tryz.lays138 s c w
def Tryz.lays99_ren : Go.Shelf.Ren:=⟨fun | 99 => 86 | 206 => 133 | n => n, fun | 9 => 9 | 4 => 4 | 3 => 3 | n => n, fun | n => n⟩
theorem Tryz.lays99 : Go.Proofs.Lays.n99 Tryz.prog Tryz.lays99_ren:={
  mixed:=by kernel_rfl
  f99:=hT func86 (by kernel_rfl)
  f206:=hT func133 (by kernel_rfl)
  t3:=underlying3
  a3:=isAgg3
  z3:=sizeOf3
  v3:=zeroValue3
  t4:=underlying4
  a4:=isAgg4
  z4:=sizeOf4
  v4:=zeroValue4
  t9:=underlying9
  a9:=isAgg9
  z9:=sizeOf9
  v9:=zeroValue9 }
open Go.RowKit Go.Lib in
theorem Tryz.strings_HasPrefix (s p : ByteArray) (w : World) :
    Calls Tryz.prog 86 #[.string s, .string p] w fun e w' => e = .returned (.bool (Lib.hasPrefix s.data.toList p.data.toList)) ∧ w' = w:=Any.strings_HasPrefix Tryz.lays99 s p w
def Tryz.lays100_ren : Go.Shelf.Ren:=⟨fun | 100 => 138 | 207 => 161 | n => n, fun | 9 => 9 | 4 => 4 | 3 => 3 | n => n, fun | n => n⟩
theorem Tryz.lays100 : Go.Proofs.Lays.n100 Tryz.prog Tryz.lays100_ren:={
  mixed:=by kernel_rfl
  f100:=hT func138 (by kernel_rfl)
  f207:=hT func161 (by kernel_rfl)
  t3:=underlying3
  a3:=isAgg3
  z3:=sizeOf3
  v3:=zeroValue3
  t4:=underlying4
  a4:=isAgg4
  z4:=sizeOf4
  v4:=zeroValue4
  t9:=underlying9
  a9:=isAgg9
  z9:=sizeOf9
  v9:=zeroValue9 }
open Go.RowKit Go.Lib in
theorem Tryz.strings_HasSuffix (s p : ByteArray) (w : World) (hs : s.size ≤ 9223372036854775807) :
    Calls Tryz.prog 138 #[.string s, .string p] w fun e w' => e = .returned (.bool (Lib.hasSuffix s.data.toList p.data.toList)) ∧ w' = w:=Any.strings_HasSuffix Tryz.lays100 s p w hs
def Tryz.lays102_ren : Go.Shelf.Ren:=⟨fun | 102 => 77 | 209 => 123 | 207 => 161 | n => n, fun | 9 => 9 | 4 => 4 | 3 => 3 | n => n, fun | n => n⟩
theorem Tryz.lays102 : Go.Proofs.Lays.n102 Tryz.prog Tryz.lays102_ren:={
  mixed:=by kernel_rfl
  f102:=hT func77 (by kernel_rfl)
  f207:=hT func161 (by kernel_rfl)
  f209:=hT func123 (by kernel_rfl)
  t3:=underlying3
  a3:=isAgg3
  z3:=sizeOf3
  v3:=zeroValue3
  t4:=underlying4
  a4:=isAgg4
  z4:=sizeOf4
  v4:=zeroValue4
  t9:=underlying9
  a9:=isAgg9
  z9:=sizeOf9
  v9:=zeroValue9 }
open Go.RowKit Go.Lib in
theorem Tryz.strings_TrimSuffix (s p : ByteArray) (w : World) (hs : s.size ≤ 9223372036854775807) :
    Calls Tryz.prog 77 #[.string s, .string p] w fun e w' => e = .returned (.string ⟨(Lib.trimSuffix s.data.toList p.data.toList).toArray⟩) ∧ w' = w:=Any.strings_TrimSuffix Tryz.lays102 s p w hs
def Tryz.lays151_ren : Go.Shelf.Ren:=⟨fun | 151 => 82 | 152 => 130 | 137 => 119 | 119 => 164 | 224 => 155 | 225 => 154 | 217 => 153 | 266 => 173 | n => n, fun | 9 => 9 | 21 => 21 | 4 => 4 | 3 => 3 | 5 => 5 | 0 => 0 | 46 => 88 | n => n, fun | n => n⟩
theorem Tryz.lays151 : Go.Proofs.Lays.n151 Tryz.prog Tryz.lays151_ren:={
  mixed:=by kernel_rfl
  f119:=hT func164 (by kernel_rfl)
  f137:=hT func119 (by kernel_rfl)
  f151:=hT func82 (by kernel_rfl)
  f152:=hT func130 (by kernel_rfl)
  f217:=hT func153 (by kernel_rfl)
  f224:=hT func155 (by kernel_rfl)
  f225:=hT func154 (by kernel_rfl)
  f266:=hT func173 (by kernel_rfl)
  t0:=underlying0
  a0:=isAgg0
  z0:=sizeOf0
  v0:=zeroValue0
  t3:=underlying3
  a3:=isAgg3
  z3:=sizeOf3
  v3:=zeroValue3
  t4:=underlying4
  a4:=isAgg4
  z4:=sizeOf4
  v4:=zeroValue4
  t5:=underlying5
  a5:=isAgg5
  z5:=sizeOf5
  v5:=zeroValue5
  t9:=underlying9
  a9:=isAgg9
  z9:=sizeOf9
  v9:=zeroValue9
  t21:=underlying21
  a21:=isAgg21
  z21:=sizeOf21
  v21:=zeroValue21
  t46:=underlying88
  a46:=isAgg88
  z46:=sizeOf88
  v46:=zeroValue88 }
open Go.RowKit Go.Lib in
theorem Tryz.strings_ContainsRune_ascii (s : ByteArray) (r : Int) (w : World) (h0 : 0 ≤ r) (h1 : r < 128) :
    Calls Tryz.prog 82 #[.string s, .int .i32 r] w fun e w' => e = .returned (.bool (decide (0 ≤ Lib.indexByte s.data.toList r.toNat.toUInt8))) ∧ w' = w:=Any.strings_ContainsRune_ascii Tryz.lays151 s r w h0 h1
def Tryz.lays150_ren : Go.Shelf.Ren:=⟨fun | 150 => 73 | 153 => 121 | 152 => 130 | 226 => 160 | 227 => 95 | 228 => 136 | 137 => 119 | 119 => 164 | 224 => 155 | 225 => 154 | 217 => 153 | 266 => 173 | n => n, fun | 9 => 9 | 4 => 4 | 3 => 3 | 5 => 5 | 21 => 21 | 117 => 143 | 116 => 142 | 0 => 0 | 46 => 88 | 124 => 146 | n => n, fun | n => n⟩
theorem Tryz.lays150 : Go.Proofs.Lays.n150 Tryz.prog Tryz.lays150_ren:={
  mixed:=by kernel_rfl
  f119:=hT func164 (by kernel_rfl)
  f137:=hT func119 (by kernel_rfl)
  f150:=hT func73 (by kernel_rfl)
  f152:=hT func130 (by kernel_rfl)
  f153:=hT func121 (by kernel_rfl)
  f217:=hT func153 (by kernel_rfl)
  f224:=hT func155 (by kernel_rfl)
  f225:=hT func154 (by kernel_rfl)
  f226:=hT func160 (by kernel_rfl)
  f227:=hT func95 (by kernel_rfl)
  f228:=hT func136 (by kernel_rfl)
  f266:=hT func173 (by kernel_rfl)
  t0:=underlying0
  a0:=isAgg0
  z0:=sizeOf0
  v0:=zeroValue0
  t3:=underlying3
  a3:=isAgg3
  z3:=sizeOf3
  v3:=zeroValue3
  t4:=underlying4
  a4:=isAgg4
  z4:=sizeOf4
  v4:=zeroValue4
  t5:=underlying5
  a5:=isAgg5
  z5:=sizeOf5
  v5:=zeroValue5
  t9:=underlying9
  a9:=isAgg9
  z9:=sizeOf9
  v9:=zeroValue9
  t21:=underlying21
  a21:=isAgg21
  z21:=sizeOf21
  v21:=zeroValue21
  t46:=underlying88
  a46:=isAgg88
  z46:=sizeOf88
  v46:=zeroValue88
  t116:=underlying142
  a116:=isAgg142
  z116:=sizeOf142
  t117:=underlying143
  a117:=isAgg143
  z117:=sizeOf143
  v117:=zeroValue143
  t124:=underlying146
  a124:=isAgg146
  z124:=sizeOf146
  v124:=zeroValue146 }
open Go.RowKit Go.Lib in
theorem Tryz.strings_ContainsAny_laid (s chars : ByteArray) (w : World) (hs : s.size < 4294967281) (hcs : chars.size < 4294967281) (has : ∀ (j : Nat) b, s.data.toList[j]? = some b → b.toNat < 128) (hac : ∀ (j : Nat) b, chars.data.toList[j]? = some b → b.toNat < 128) :
    Calls Tryz.prog 73 #[.string s, .string chars] w fun e w' => e = .returned (.bool (Lib.containsAny s.data.toList chars.data.toList)) ∧ Below w.heap.size w w':=Any.strings_ContainsAny_laid Tryz.lays150 (by kernel_rfl) s chars w hs hcs has hac
def Tryz.lays212_ren : Go.Shelf.Ren:=⟨fun | 212 => 54 | 263 => 111 | 264 => 112 | n => n, fun | 46 => 88 | 51 => 158 | 146 => 159 | 53 => 161 | 148 => 162 | n => n, fun | n => n⟩
theorem Tryz.lays212 : Go.Proofs.Lays.n212 Tryz.prog Tryz.lays212_ren:={
  mixed:=by kernel_rfl
  f212:=hT func54 (by kernel_rfl)
  f263:=hT func111 (by kernel_rfl)
  f264:=hT func112 (by kernel_rfl)
  t46:=underlying88
  a46:=isAgg88
  z46:=sizeOf88
  v46:=zeroValue88
  t51:=underlying158
  a51:=isAgg158
  z51:=sizeOf158
  v51:=zeroValue158
  t53:=underlying161
  a53:=isAgg161
  z53:=sizeOf161
  v53:=zeroValue161
  t146:=underlying159
  a146:=isAgg159
  z146:=sizeOf159
  v146:=zeroValue159
  t148:=underlying162
  a148:=isAgg162
  z148:=sizeOf162
  v148:=zeroValue162 }
open Go.RowKit Go.Lib in
theorem Tryz.bits_Mul (x y : Nat) (hx : x < 18446744073709551616) (hy : y < 18446744073709551616) (w : World) :
    Calls Tryz.prog 54 #[.int .u64 x, .int .u64 y] w fun e w' => e = .returned (.tuple #[.int .u64 ((x * y / 18446744073709551616 : Nat) : Int), .int .u64 ((x * y % 18446744073709551616 : Nat) : Int)]) ∧ w' = w:=Any.bits_Mul Tryz.lays212 x y hx hy w
def Tryz.lays105_ren : Go.Shelf.Ren:=⟨fun | 105 => 41 | 212 => 54 | 99 => 86 | 165 => 87 | 166 => 70 | 170 => 88 | 169 => 71 | 263 => 111 | 264 => 112 | 206 => 133 | 240 => 120 | 241 => 134 | 276 => 159 | 277 => 55 | n => n, fun | 9 => 9 | 3 => 3 | 4 => 4 | 20 => 20 | 0 => 0 | 46 => 88 | 109 => 89 | 5 => 5 | 72 => 109 | 76 => 116 | 51 => 158 | 146 => 159 | 53 => 161 | 148 => 162 | 70 => 107 | 37 => 26 | 75 => 115 | 127 => 166 | 164 => 187 | 80 => 65 | n => n, fun | n => n⟩
theorem Tryz.lays105 : Go.Proofs.Lays.n105 Tryz.prog Tryz.lays105_ren:={
  mixed:=by kernel_rfl
  f99:=hT func86 (by kernel_rfl)
  f105:=hT func41 (by kernel_rfl)
  f165:=hT func87 (by kernel_rfl)
  f166:=hT func70 (by kernel_rfl)
  f169:=hT func71 (by kernel_rfl)
  f170:=hT func88 (by kernel_rfl)
  f206:=hT func133 (by kernel_rfl)
  f212:=hT func54 (by kernel_rfl)
  f240:=hT func120 (by kernel_rfl)
  f241:=hT func134 (by kernel_rfl)
  f263:=hT func111 (by kernel_rfl)
  f264:=hT func112 (by kernel_rfl)
  f276:=hT func159 (by kernel_rfl)
  f277:=hT func55 (by kernel_rfl)
  t0:=underlying0
  a0:=isAgg0
  z0:=sizeOf0
  v0:=zeroValue0
  t3:=underlying3
  a3:=isAgg3
  z3:=sizeOf3
  v3:=zeroValue3
  t4:=underlying4
  a4:=isAgg4
  z4:=sizeOf4
  v4:=zeroValue4
  t5:=underlying5
  a5:=isAgg5
  z5:=sizeOf5
  v5:=zeroValue5
  t9:=underlying9
  a9:=isAgg9
  z9:=sizeOf9
  v9:=zeroValue9
  t20:=underlying20
  a20:=isAgg20
  z20:=sizeOf20
  v20:=zeroValue20
  t37:=underlying26
  a37:=isAgg26
  z37:=sizeOf26
  v37:=zeroValue26
  t46:=underlying88
  a46:=isAgg88
  z46:=sizeOf88
  v46:=zeroValue88
  t51:=underlying158
  a51:=isAgg158
  z51:=sizeOf158
  v51:=zeroValue158
  t53:=underlying161
  a53:=isAgg161
  z53:=sizeOf161
  v53:=zeroValue161
  t70:=underlying107
  a70:=isAgg107
  z70:=sizeOf107
  v70:=zeroValue107
  t72:=underlying109
  a72:=isAgg109
  z72:=sizeOf109
  v72:=zeroValue109
  t75:=underlying115
  a75:=isAgg115
  z75:=sizeOf115
  v75:=zeroValue115
  t76:=underlying116
  a76:=isAgg116
  z76:=sizeOf116
  v76:=zeroValue116
  t109:=underlying89
  a109:=isAgg89
  z109:=sizeOf89
  v109:=zeroValue89
  t127:=underlying166
  a127:=isAgg166
  z127:=sizeOf166
  v127:=zeroValue166
  t146:=underlying159
  a146:=isAgg159
  z146:=sizeOf159
  v146:=zeroValue159
  t148:=underlying162
  a148:=isAgg162
  z148:=sizeOf162
  v148:=zeroValue162
  t164:=underlying187
  a164:=isAgg187
  z164:=sizeOf187
  v164:=zeroValue187 }
theorem Tryz.Builder_Extra_105 : Builder.Extra Tryz.prog Tryz.lays105_ren:={
  sizeBuilder:=by kernel_rfl
  liesBuilder:=by kernel_rfl
  t5:=underlying5
  a5:=isAgg5
  z5:=sizeOf5
  v5:=zeroValue5
  infoByte:=by kernel_rfl
  cellsByte:=by kernel_rfl
  sizeByte:=by kernel_rfl
  neB5:=by decide }
open Go.RowKit Go.Lib in
theorem Tryz.strings_Repeat (s : ByteArray) (c : Nat) (w : World) (hc : c ≤ 9223372036854775807) (hlen : s.size * c ≤ 140737488355328) :
    Calls Tryz.prog 41 #[.string s, .int .i64 c] w fun e w' => e = .returned (.string ⟨(Lib.repeatL s.data.toList c).toArray⟩) ∧ Below w.heap.size w w':=Any.strings_Repeat Tryz.lays105 Tryz.Builder_Extra_105 s c w hc hlen
end Go.Proofs
