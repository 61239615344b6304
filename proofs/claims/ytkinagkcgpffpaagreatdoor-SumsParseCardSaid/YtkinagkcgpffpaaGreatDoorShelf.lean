/-
  Contracts of the library functions that the law reaches.
-/
import Derived.Shelf.Strings.Builder1
import Derived.Shelf.Strings.Builder2
import Derived.Shelf.Strings.OnBuilder
import Derived.Shelf.Strings.Trim
import Derived.Shelf.Small.Utf8
import Derived.Shelf.Small.Strs
import Derived.Shelf.Small.Wraps
import Derived.Shelf.Strings.BuilderF
import Derived.Shelf.Strings.BuilderK
import Derived.Shelf.Strings.BuilderRune
import Derived.Shelf.Strings.Builder2Cap
import Derived.Shelf.Strconv.Atoi
import Derived.Shelf.Strconv.Itoa0
import Derived.Shelf.Strconv.Itoa1
import Derived.Shelf.LaysM
import Derived.Shelf.Strconv.Itoa2
import Derived.Shelf.Strconv.Itoa3
import Derived.Shelf.Strconv.ParseIntEmpty
import Derived.Shelf.Strconv.Clone
import Derived.Shelf.Strconv.SyntaxError
import Derived.Shelf.LaysC
import Derived.Shelf.Strconv.ToError
import Derived.Shelf.Strconv.Lower
import Derived.Shelf.Strconv.ParseUint10
import Derived.Shelf.Strconv.ParseUint10Empty
import Derived.Shelf.Strconv.ParseUint10Any
import Derived.Shelf.Strconv.ParseInt10
import Derived.Shelf.Strconv.RangeError
import Derived.Shelf.Strconv.ToErrorRange
import Derived.Shelf.Strconv.ParseUintEmpty
import Derived.Shelf.Strconv.ParseUint10b64
import Derived.Shelf.Strconv.ParseUint10b32
import Derived.Shelf.Strconv.ParseUint10b16
import Derived.Shelf.Strconv.ParseUint10b8
import Derived.Shelf.Strconv.ParseUint10At
import Derived.Shelf.Strconv.ParseInt10At64
import Derived.Shelf.Strconv.ParseInt10At32
import Derived.Shelf.Strconv.ParseInt10At16
import Derived.Shelf.Strconv.ParseInt10At8
import Derived.Shelf.Strconv.ParseInt10All
import Derived.Shelf.Strconv.ParseIntPublic10
import Derived.Shelf.Strings.Search1
import Derived.Shelf.Strings.Search2
import Derived.Shelf.Strings.Search3
import Derived.Shelf.Strings.Cut
import Derived.Shelf.Strings.Count
import Derived.Shelf.Strings.Shaped
import Derived.Shelf.GgClosure.StringsIndexFunc
import Derived.Shelf.Strings.Prefix
import Derived.Shelf.Strings.Split
import Derived.Shelf.Strings.Fields
import Derived.Shelf.Strings.Replace
import Derived.Shelf.Unicode.Latin
import Derived.Shelf.Strings.Runes
import Derived.Shelf.Strings.IndexAny
import Derived.Shelf.Strings.AsciiSet
import Derived.Shelf.Strings.IndexAnyAll
import Derived.Shelf.Bits.Mul64
import Derived.Shelf.Strings.Repeat
import Derived.Shelf.Unicode.DecodeSlow
import Derived.Shelf.Unicode.DecodeAny
import Derived.Shelf.Unicode.Is16White
import Derived.Shelf.Unicode.IsSpaceAny
import Derived.Shelf.Strings.MapAny
import Derived.Shelf.Unicode.Is16Any
import Derived.Shelf.Unicode.Is32Any
import Derived.Shelf.Unicode.ExclAny
import Derived.Shelf.Strings.BuilderCap
import Derived.Shelf.Strings.MapGrows
import Derived.Test.YtkinagkcgpffpaaGreatDoorProg
namespace Go.Proofs
open Go.Shelf
def Tryz.lays156_ren : Go.Shelf.Ren:=⟨fun | 156 => 58 | 165 => 95 | 166 => 96 | 169 => 97 | 240 => 147 | 241 => 148 | 276 => 207 | 277 => 197 | n => n, fun | 31 => 57 | 9 => 9 | 3 => 3 | 4 => 4 | 0 => 0 | 20 => 20 | 72 => 172 | 76 => 176 | 70 => 170 | 37 => 66 | 75 => 175 | 127 => 245 | 164 => 292 | 5 => 5 | 80 => 178 | n => n, fun | n => n⟩
theorem Tryz.lays156 : Go.Proofs.Lays.n156 Tryz.prog Tryz.lays156_ren:={
  mixed:=by kernel_rfl
  f156:=Tryz.func58.trans (congrArg some (by kernel_rfl))
  f165:=Tryz.func95.trans (congrArg some (by kernel_rfl))
  f166:=Tryz.func96.trans (congrArg some (by kernel_rfl))
  f169:=Tryz.func97.trans (congrArg some (by kernel_rfl))
  f240:=Tryz.func147.trans (congrArg some (by kernel_rfl))
  f241:=Tryz.func148.trans (congrArg some (by kernel_rfl))
  f276:=Tryz.func207.trans (congrArg some (by kernel_rfl))
  f277:=Tryz.func197.trans (congrArg some (by kernel_rfl))
  t0:=Tryz.underlying0
  a0:=Tryz.isAgg0
  z0:=Tryz.sizeOf0
  v0:=Tryz.zeroValue0
  t3:=Tryz.underlying3
  a3:=Tryz.isAgg3
  z3:=Tryz.sizeOf3
  v3:=Tryz.zeroValue3
  t4:=Tryz.underlying4
  a4:=Tryz.isAgg4
  z4:=Tryz.sizeOf4
  v4:=Tryz.zeroValue4
  t9:=Tryz.underlying9
  a9:=Tryz.isAgg9
  z9:=Tryz.sizeOf9
  v9:=Tryz.zeroValue9
  t20:=Tryz.underlying20
  a20:=Tryz.isAgg20
  z20:=Tryz.sizeOf20
  v20:=Tryz.zeroValue20
  t31:=Tryz.underlying57
  a31:=Tryz.isAgg57
  z31:=Tryz.sizeOf57
  v31:=Tryz.zeroValue57
  t37:=Tryz.underlying66
  a37:=Tryz.isAgg66
  z37:=Tryz.sizeOf66
  v37:=Tryz.zeroValue66
  t70:=Tryz.underlying170
  a70:=Tryz.isAgg170
  z70:=Tryz.sizeOf170
  v70:=Tryz.zeroValue170
  t72:=Tryz.underlying172
  a72:=Tryz.isAgg172
  z72:=Tryz.sizeOf172
  v72:=Tryz.zeroValue172
  t75:=Tryz.underlying175
  a75:=Tryz.isAgg175
  z75:=Tryz.sizeOf175
  v75:=Tryz.zeroValue175
  t76:=Tryz.underlying176
  a76:=Tryz.isAgg176
  z76:=Tryz.sizeOf176
  v76:=Tryz.zeroValue176
  t127:=Tryz.underlying245
  a127:=Tryz.isAgg245
  z127:=Tryz.sizeOf245
  v127:=Tryz.zeroValue245
  t164:=Tryz.underlying292
  a164:=Tryz.isAgg292
  z164:=Tryz.sizeOf292
  v164:=Tryz.zeroValue292 }
theorem Tryz.Builder_Extra_156 : Builder.Extra Tryz.prog Tryz.lays156_ren:={
  sizeBuilder:=by kernel_rfl
  liesBuilder:=by kernel_rfl
  t5:=Tryz.underlying5
  a5:=Tryz.isAgg5
  z5:=Tryz.sizeOf5
  v5:=Tryz.zeroValue5
  infoByte:=by kernel_rfl
  cellsByte:=by kernel_rfl
  sizeByte:=by kernel_rfl
  neB5:=by decide }
open Go.RowKit in
theorem Tryz.strings_Join_none (a : Option Addr) (c : Nat) (sep : ByteArray) (w : World) :
    Calls Tryz.prog 58 #[.slice a 0 c, .string sep] w fun e w' => e = .returned (.string ⟨#[]⟩) ∧ w' = w:=Any.strings_Join_none Tryz.lays156 Tryz.Builder_Extra_156 a c sep w
open Go.RowKit in
theorem Tryz.strings_Join (bk o c : Nat) (xs : List ByteArray) (sep : ByteArray) (w : World) (hcells : ∀ (j : Nat) x, xs[j]? = some x → w.cell? ⟨bk, o + j, none⟩ = some (.string x)) (hbk : bk < w.heap.size) (hN : xs.length ≤ 140737488355328) (hcap : xs.length ≤ c) (hlen : (Lib.join (xs.map (·.data.toList)) sep.data.toList).length ≤ 140737488355328) :
    Calls Tryz.prog 58 #[.slice (some ⟨bk, o, none⟩) xs.length c, .string sep] w fun e w' => e = .returned (.string ⟨(Lib.join (xs.map (·.data.toList)) sep.data.toList).toArray⟩) ∧ Below w.heap.size w w':=Any.strings_Join Tryz.lays156 Tryz.Builder_Extra_156 bk o c xs sep w hcells hbk hN hcap hlen
def Tryz.lays161_ren : Go.Shelf.Ren:=⟨fun | 161 => 69 | 231 => 108 | 227 => 109 | 233 => 110 | 235 => 111 | 228 => 156 | 197 => 146 | 151 => 157 | 260 => 206 | 152 => 214 | 137 => 196 | 119 => 256 | 224 => 246 | 225 => 245 | 217 => 239 | 266 => 267 | n => n, fun | 9 => 9 | 4 => 4 | 3 => 3 | 5 => 5 | 117 => 193 | 116 => 192 | 0 => 0 | 124 => 196 | 105 => 243 | 21 => 21 | 119 => 240 | 46 => 183 | 139 => 329 | 138 => 328 | n => n, fun | 3 => 5 | 4 => 6 | n => n⟩
theorem Tryz.lays161 : Go.Proofs.Lays.n161 Tryz.prog Tryz.lays161_ren:={
  mixed:=by kernel_rfl
  f119:=Tryz.func256.trans (congrArg some (by kernel_rfl))
  f137:=Tryz.func196.trans (congrArg some (by kernel_rfl))
  f151:=Tryz.func157.trans (congrArg some (by kernel_rfl))
  f152:=Tryz.func214.trans (congrArg some (by kernel_rfl))
  f161:=Tryz.func69.trans (congrArg some (by kernel_rfl))
  f197:=Tryz.func146.trans (congrArg some (by kernel_rfl))
  f217:=Tryz.func239.trans (congrArg some (by kernel_rfl))
  f224:=Tryz.func246.trans (congrArg some (by kernel_rfl))
  f225:=Tryz.func245.trans (congrArg some (by kernel_rfl))
  f227:=Tryz.func109.trans (congrArg some (by kernel_rfl))
  f228:=Tryz.func156.trans (congrArg some (by kernel_rfl))
  f231:=Tryz.func108.trans (congrArg some (by kernel_rfl))
  f233:=Tryz.func110.trans (congrArg some (by kernel_rfl))
  f235:=Tryz.func111.trans (congrArg some (by kernel_rfl))
  f260:=Tryz.func206.trans (congrArg some (by kernel_rfl))
  f266:=Tryz.func267.trans (congrArg some (by kernel_rfl))
  t0:=Tryz.underlying0
  a0:=Tryz.isAgg0
  z0:=Tryz.sizeOf0
  v0:=Tryz.zeroValue0
  t3:=Tryz.underlying3
  a3:=Tryz.isAgg3
  z3:=Tryz.sizeOf3
  v3:=Tryz.zeroValue3
  t4:=Tryz.underlying4
  a4:=Tryz.isAgg4
  z4:=Tryz.sizeOf4
  v4:=Tryz.zeroValue4
  t5:=Tryz.underlying5
  a5:=Tryz.isAgg5
  z5:=Tryz.sizeOf5
  v5:=Tryz.zeroValue5
  t9:=Tryz.underlying9
  a9:=Tryz.isAgg9
  z9:=Tryz.sizeOf9
  v9:=Tryz.zeroValue9
  t21:=Tryz.underlying21
  a21:=Tryz.isAgg21
  z21:=Tryz.sizeOf21
  v21:=Tryz.zeroValue21
  t46:=Tryz.underlying183
  a46:=Tryz.isAgg183
  z46:=Tryz.sizeOf183
  v46:=Tryz.zeroValue183
  t105:=Tryz.underlying243
  a105:=Tryz.isAgg243
  z105:=Tryz.sizeOf243
  v105:=Tryz.zeroValue243
  t116:=Tryz.underlying192
  a116:=Tryz.isAgg192
  z116:=Tryz.sizeOf192
  t117:=Tryz.underlying193
  a117:=Tryz.isAgg193
  z117:=Tryz.sizeOf193
  v117:=Tryz.zeroValue193
  t119:=Tryz.underlying240
  a119:=Tryz.isAgg240
  z119:=Tryz.sizeOf240
  t124:=Tryz.underlying196
  a124:=Tryz.isAgg196
  z124:=Tryz.sizeOf196
  v124:=Tryz.zeroValue196
  t138:=Tryz.underlying328
  a138:=Tryz.isAgg328
  z138:=Tryz.sizeOf328
  v138:=Tryz.zeroValue328
  t139:=Tryz.underlying329
  a139:=Tryz.isAgg329
  z139:=Tryz.sizeOf329
  v139:=Tryz.zeroValue329
  g3:=by kernel_rfl
  g4:=by kernel_rfl }
def Tryz.lays162_ren : Go.Shelf.Ren:=⟨fun | 162 => 180 | 232 => 133 | 227 => 109 | 234 => 134 | 236 => 135 | 228 => 156 | 271 => 186 | 151 => 157 | 120 => 237 | 197 => 146 | 152 => 214 | 260 => 206 | 137 => 196 | 119 => 256 | 224 => 246 | 225 => 245 | 217 => 239 | 266 => 267 | n => n, fun | 9 => 9 | 4 => 4 | 3 => 3 | 5 => 5 | 117 => 193 | 116 => 192 | 0 => 0 | 124 => 196 | 21 => 21 | 105 => 243 | 46 => 183 | 119 => 240 | 139 => 329 | 138 => 328 | n => n, fun | 3 => 5 | 4 => 6 | n => n⟩
theorem Tryz.lays162 : Go.Proofs.Lays.n162 Tryz.prog Tryz.lays162_ren:={
  mixed:=by kernel_rfl
  f119:=Tryz.func256.trans (congrArg some (by kernel_rfl))
  f120:=Tryz.func237.trans (congrArg some (by kernel_rfl))
  f137:=Tryz.func196.trans (congrArg some (by kernel_rfl))
  f151:=Tryz.func157.trans (congrArg some (by kernel_rfl))
  f152:=Tryz.func214.trans (congrArg some (by kernel_rfl))
  f162:=Tryz.func180.trans (congrArg some (by kernel_rfl))
  f197:=Tryz.func146.trans (congrArg some (by kernel_rfl))
  f217:=Tryz.func239.trans (congrArg some (by kernel_rfl))
  f224:=Tryz.func246.trans (congrArg some (by kernel_rfl))
  f225:=Tryz.func245.trans (congrArg some (by kernel_rfl))
  f227:=Tryz.func109.trans (congrArg some (by kernel_rfl))
  f228:=Tryz.func156.trans (congrArg some (by kernel_rfl))
  f232:=Tryz.func133.trans (congrArg some (by kernel_rfl))
  f234:=Tryz.func134.trans (congrArg some (by kernel_rfl))
  f236:=Tryz.func135.trans (congrArg some (by kernel_rfl))
  f260:=Tryz.func206.trans (congrArg some (by kernel_rfl))
  f266:=Tryz.func267.trans (congrArg some (by kernel_rfl))
  f271:=Tryz.func186.trans (congrArg some (by kernel_rfl))
  t0:=Tryz.underlying0
  a0:=Tryz.isAgg0
  z0:=Tryz.sizeOf0
  v0:=Tryz.zeroValue0
  t3:=Tryz.underlying3
  a3:=Tryz.isAgg3
  z3:=Tryz.sizeOf3
  v3:=Tryz.zeroValue3
  t4:=Tryz.underlying4
  a4:=Tryz.isAgg4
  z4:=Tryz.sizeOf4
  v4:=Tryz.zeroValue4
  t5:=Tryz.underlying5
  a5:=Tryz.isAgg5
  z5:=Tryz.sizeOf5
  v5:=Tryz.zeroValue5
  t9:=Tryz.underlying9
  a9:=Tryz.isAgg9
  z9:=Tryz.sizeOf9
  v9:=Tryz.zeroValue9
  t21:=Tryz.underlying21
  a21:=Tryz.isAgg21
  z21:=Tryz.sizeOf21
  v21:=Tryz.zeroValue21
  t46:=Tryz.underlying183
  a46:=Tryz.isAgg183
  z46:=Tryz.sizeOf183
  v46:=Tryz.zeroValue183
  t105:=Tryz.underlying243
  a105:=Tryz.isAgg243
  z105:=Tryz.sizeOf243
  v105:=Tryz.zeroValue243
  t116:=Tryz.underlying192
  a116:=Tryz.isAgg192
  z116:=Tryz.sizeOf192
  t117:=Tryz.underlying193
  a117:=Tryz.isAgg193
  z117:=Tryz.sizeOf193
  v117:=Tryz.zeroValue193
  t119:=Tryz.underlying240
  a119:=Tryz.isAgg240
  z119:=Tryz.sizeOf240
  t124:=Tryz.underlying196
  a124:=Tryz.isAgg196
  z124:=Tryz.sizeOf196
  v124:=Tryz.zeroValue196
  t138:=Tryz.underlying328
  a138:=Tryz.isAgg328
  z138:=Tryz.sizeOf328
  v138:=Tryz.zeroValue328
  t139:=Tryz.underlying329
  a139:=Tryz.isAgg329
  z139:=Tryz.sizeOf329
  v139:=Tryz.zeroValue329
  g3:=by kernel_rfl
  g4:=by kernel_rfl }
def Tryz.lays160_ren : Go.Shelf.Ren:=⟨fun | 160 => 85 | 232 => 133 | 231 => 108 | 227 => 109 | 234 => 134 | 233 => 110 | 236 => 135 | 235 => 111 | 228 => 156 | 271 => 186 | 151 => 157 | 197 => 146 | 120 => 237 | 152 => 214 | 260 => 206 | 137 => 196 | 119 => 256 | 224 => 246 | 225 => 245 | 217 => 239 | 266 => 267 | n => n, fun | 9 => 9 | 4 => 4 | 3 => 3 | 5 => 5 | 117 => 193 | 116 => 192 | 0 => 0 | 124 => 196 | 21 => 21 | 105 => 243 | 46 => 183 | 119 => 240 | 139 => 329 | 138 => 328 | n => n, fun | 3 => 5 | 4 => 6 | n => n⟩
theorem Tryz.lays160 : Go.Proofs.Lays.n160 Tryz.prog Tryz.lays160_ren:={
  mixed:=by kernel_rfl
  f119:=Tryz.func256.trans (congrArg some (by kernel_rfl))
  f120:=Tryz.func237.trans (congrArg some (by kernel_rfl))
  f137:=Tryz.func196.trans (congrArg some (by kernel_rfl))
  f151:=Tryz.func157.trans (congrArg some (by kernel_rfl))
  f152:=Tryz.func214.trans (congrArg some (by kernel_rfl))
  f160:=Tryz.func85.trans (congrArg some (by kernel_rfl))
  f197:=Tryz.func146.trans (congrArg some (by kernel_rfl))
  f217:=Tryz.func239.trans (congrArg some (by kernel_rfl))
  f224:=Tryz.func246.trans (congrArg some (by kernel_rfl))
  f225:=Tryz.func245.trans (congrArg some (by kernel_rfl))
  f227:=Tryz.func109.trans (congrArg some (by kernel_rfl))
  f228:=Tryz.func156.trans (congrArg some (by kernel_rfl))
  f231:=Tryz.func108.trans (congrArg some (by kernel_rfl))
  f232:=Tryz.func133.trans (congrArg some (by kernel_rfl))
  f233:=Tryz.func110.trans (congrArg some (by kernel_rfl))
  f234:=Tryz.func134.trans (congrArg some (by kernel_rfl))
  f235:=Tryz.func111.trans (congrArg some (by kernel_rfl))
  f236:=Tryz.func135.trans (congrArg some (by kernel_rfl))
  f260:=Tryz.func206.trans (congrArg some (by kernel_rfl))
  f266:=Tryz.func267.trans (congrArg some (by kernel_rfl))
  f271:=Tryz.func186.trans (congrArg some (by kernel_rfl))
  t0:=Tryz.underlying0
  a0:=Tryz.isAgg0
  z0:=Tryz.sizeOf0
  v0:=Tryz.zeroValue0
  t3:=Tryz.underlying3
  a3:=Tryz.isAgg3
  z3:=Tryz.sizeOf3
  v3:=Tryz.zeroValue3
  t4:=Tryz.underlying4
  a4:=Tryz.isAgg4
  z4:=Tryz.sizeOf4
  v4:=Tryz.zeroValue4
  t5:=Tryz.underlying5
  a5:=Tryz.isAgg5
  z5:=Tryz.sizeOf5
  v5:=Tryz.zeroValue5
  t9:=Tryz.underlying9
  a9:=Tryz.isAgg9
  z9:=Tryz.sizeOf9
  v9:=Tryz.zeroValue9
  t21:=Tryz.underlying21
  a21:=Tryz.isAgg21
  z21:=Tryz.sizeOf21
  v21:=Tryz.zeroValue21
  t46:=Tryz.underlying183
  a46:=Tryz.isAgg183
  z46:=Tryz.sizeOf183
  v46:=Tryz.zeroValue183
  t105:=Tryz.underlying243
  a105:=Tryz.isAgg243
  z105:=Tryz.sizeOf243
  v105:=Tryz.zeroValue243
  t116:=Tryz.underlying192
  a116:=Tryz.isAgg192
  z116:=Tryz.sizeOf192
  t117:=Tryz.underlying193
  a117:=Tryz.isAgg193
  z117:=Tryz.sizeOf193
  v117:=Tryz.zeroValue193
  t119:=Tryz.underlying240
  a119:=Tryz.isAgg240
  z119:=Tryz.sizeOf240
  t124:=Tryz.underlying196
  a124:=Tryz.isAgg196
  z124:=Tryz.sizeOf196
  v124:=Tryz.zeroValue196
  t138:=Tryz.underlying328
  a138:=Tryz.isAgg328
  z138:=Tryz.sizeOf328
  v138:=Tryz.zeroValue328
  t139:=Tryz.underlying329
  a139:=Tryz.isAgg329
  z139:=Tryz.sizeOf329
  v139:=Tryz.zeroValue329
  g3:=by kernel_rfl
  g4:=by kernel_rfl }
def Tryz.lays118_ren : Go.Shelf.Ren:=⟨fun | 118 => 198 | n => n, fun | 21 => 21 | 3 => 3 | 4 => 4 | n => n, fun | n => n⟩
theorem Tryz.lays118 : Go.Proofs.Lays.n118 Tryz.prog Tryz.lays118_ren:={
  mixed:=by kernel_rfl
  f118:=Tryz.func198.trans (congrArg some (by kernel_rfl))
  t3:=Tryz.underlying3
  a3:=Tryz.isAgg3
  z3:=Tryz.sizeOf3
  v3:=Tryz.zeroValue3
  t4:=Tryz.underlying4
  a4:=Tryz.isAgg4
  z4:=Tryz.sizeOf4
  v4:=Tryz.zeroValue4
  t21:=Tryz.underlying21
  a21:=Tryz.isAgg21
  z21:=Tryz.sizeOf21
  v21:=Tryz.zeroValue21 }
theorem Tryz.utf8_RuneLen (r : Int) (w : World) :
    Calls Tryz.prog 198 #[.int .i32 r] w fun e w' => e = .returned (.int .i64 (Lib.runeLen r)) ∧ w' = w:=Any.utf8_RuneLen Tryz.lays118 r w
def Tryz.lays137_ren : Go.Shelf.Ren:=⟨fun | 137 => 196 | 217 => 239 | 266 => 267 | n => n, fun | 9 => 9 | 5 => 5 | 3 => 3 | n => n, fun | n => n⟩
theorem Tryz.lays137 : Go.Proofs.Lays.n137 Tryz.prog Tryz.lays137_ren:={
  mixed:=by kernel_rfl
  f137:=Tryz.func196.trans (congrArg some (by kernel_rfl))
  f217:=Tryz.func239.trans (congrArg some (by kernel_rfl))
  f266:=Tryz.func267.trans (congrArg some (by kernel_rfl))
  t3:=Tryz.underlying3
  a3:=Tryz.isAgg3
  z3:=Tryz.sizeOf3
  v3:=Tryz.zeroValue3
  t5:=Tryz.underlying5
  a5:=Tryz.isAgg5
  z5:=Tryz.sizeOf5
  v5:=Tryz.zeroValue5
  t9:=Tryz.underlying9
  a9:=Tryz.isAgg9
  z9:=Tryz.sizeOf9
  v9:=Tryz.zeroValue9 }
open Go.RowKit in
theorem Tryz.strings_IndexByte (s : ByteArray) (c : Int) (w : World) :
    Calls Tryz.prog 196 #[.string s, .int .u8 c] w fun e w' => e = .returned (.int .i64 (Lib.indexByte s.data.toList c.toNat.toUInt8)) ∧ w' = w:=Any.strings_IndexByte Tryz.lays137 s c w
def Tryz.lays103_ren : Go.Shelf.Ren:=⟨fun | 103 => 178 | 210 => 233 | 206 => 153 | n => n, fun | 9 => 9 | 4 => 4 | 24 => 154 | 3 => 3 | n => n, fun | n => n⟩
theorem Tryz.lays103 : Go.Proofs.Lays.n103 Tryz.prog Tryz.lays103_ren:={
  mixed:=by kernel_rfl
  f103:=Tryz.func178.trans (congrArg some (by kernel_rfl))
  f206:=Tryz.func153.trans (congrArg some (by kernel_rfl))
  f210:=Tryz.func233.trans (congrArg some (by kernel_rfl))
  t3:=Tryz.underlying3
  a3:=Tryz.isAgg3
  z3:=Tryz.sizeOf3
  v3:=Tryz.zeroValue3
  t4:=Tryz.underlying4
  a4:=Tryz.isAgg4
  z4:=Tryz.sizeOf4
  v4:=Tryz.zeroValue4
  t9:=Tryz.underlying9
  a9:=Tryz.isAgg9
  z9:=Tryz.sizeOf9
  v9:=Tryz.zeroValue9
  t24:=Tryz.underlying154
  a24:=Tryz.isAgg154
  z24:=Tryz.sizeOf154
  v24:=Tryz.zeroValue154 }
open Go.RowKit in
theorem Tryz.strings_CutPrefix (s p : ByteArray) (w : World) :
    Calls Tryz.prog 178 #[.string s, .string p] w fun e w' => e = .returned (.tuple #[.string ⟨(Lib.trimPrefix s.data.toList p.data.toList).toArray⟩, .bool (Lib.hasPrefix s.data.toList p.data.toList)]) ∧ w' = w:=Any.strings_CutPrefix Tryz.lays103 s p w
def Tryz.lays104_ren : Go.Shelf.Ren:=⟨fun | 104 => 181 | 211 => 234 | 207 => 149 | n => n, fun | 9 => 9 | 4 => 4 | 24 => 154 | 3 => 3 | n => n, fun | n => n⟩
theorem Tryz.lays104 : Go.Proofs.Lays.n104 Tryz.prog Tryz.lays104_ren:={
  mixed:=by kernel_rfl
  f104:=Tryz.func181.trans (congrArg some (by kernel_rfl))
  f207:=Tryz.func149.trans (congrArg some (by kernel_rfl))
  f211:=Tryz.func234.trans (congrArg some (by kernel_rfl))
  t3:=Tryz.underlying3
  a3:=Tryz.isAgg3
  z3:=Tryz.sizeOf3
  v3:=Tryz.zeroValue3
  t4:=Tryz.underlying4
  a4:=Tryz.isAgg4
  z4:=Tryz.sizeOf4
  v4:=Tryz.zeroValue4
  t9:=Tryz.underlying9
  a9:=Tryz.isAgg9
  z9:=Tryz.sizeOf9
  v9:=Tryz.zeroValue9
  t24:=Tryz.underlying154
  a24:=Tryz.isAgg154
  z24:=Tryz.sizeOf154
  v24:=Tryz.zeroValue154 }
open Go.RowKit in
theorem Tryz.strings_CutSuffix (s p : ByteArray) (w : World) (hs : s.size ≤ 9223372036854775807) :
    Calls Tryz.prog 181 #[.string s, .string p] w fun e w' => e = .returned (.tuple #[.string ⟨(Lib.trimSuffix s.data.toList p.data.toList).toArray⟩, .bool (Lib.hasSuffix s.data.toList p.data.toList)]) ∧ w' = w:=Any.strings_CutSuffix Tryz.lays104 s p w hs
def Tryz.lays172_ren : Go.Shelf.Ren:=⟨fun | 172 => 230 | 244 => 265 | 245 => 155 | 247 => 154 | 279 => 210 | 280 => 211 | 281 => 212 | 282 => 213 | 287 => 209 | 316 => 254 | 171 => 101 | 205 => 255 | 321 => 252 | 322 => 253 | 243 => 150 | 246 => 208 | 283 => 248 | 284 => 249 | 285 => 250 | 286 => 251 | 129 => 271 | 317 => 270 | 318 => 272 | 319 => 273 | 320 => 274 | 337 => 275 | 338 => 276 | n => n, fun | 9 => 9 | 3 => 3 | 75 => 175 | 76 => 176 | 4 => 4 | 5 => 5 | 167 => 295 | 37 => 66 | 0 => 0 | 85 => 188 | 2 => 2 | 168 => 298 | 53 => 250 | 175 => 296 | 46 => 183 | 210 => 338 | 127 => 245 | 145 => 351 | 143 => 349 | 21 => 21 | 171 => 330 | 173 => 333 | 212 => 346 | 51 => 247 | 20 => 20 | 213 => 347 | 232 => 353 | 233 => 354 | 80 => 178 | n => n, fun | 15 => 7 | 16 => 8 | 17 => 9 | 18 => 10 | 19 => 11 | n => n⟩
theorem Tryz.lays172 : Go.Proofs.Lays.n172 Tryz.prog Tryz.lays172_ren:={
  mixed:=by kernel_rfl
  f129:=Tryz.func271.trans (congrArg some (by kernel_rfl))
  f171:=Tryz.func101.trans (congrArg some (by kernel_rfl))
  f172:=Tryz.func230.trans (congrArg some (by kernel_rfl))
  f205:=Tryz.func255.trans (congrArg some (by kernel_rfl))
  f243:=Tryz.func150.trans (congrArg some (by kernel_rfl))
  f244:=Tryz.func265.trans (congrArg some (by kernel_rfl))
  f245:=Tryz.func155.trans (congrArg some (by kernel_rfl))
  f246:=Tryz.func208.trans (congrArg some (by kernel_rfl))
  f247:=Tryz.func154.trans (congrArg some (by kernel_rfl))
  f279:=Tryz.func210.trans (congrArg some (by kernel_rfl))
  f280:=Tryz.func211.trans (congrArg some (by kernel_rfl))
  f281:=Tryz.func212.trans (congrArg some (by kernel_rfl))
  f282:=Tryz.func213.trans (congrArg some (by kernel_rfl))
  f283:=Tryz.func248.trans (congrArg some (by kernel_rfl))
  f284:=Tryz.func249.trans (congrArg some (by kernel_rfl))
  f285:=Tryz.func250.trans (congrArg some (by kernel_rfl))
  f286:=Tryz.func251.trans (congrArg some (by kernel_rfl))
  f287:=Tryz.func209.trans (congrArg some (by kernel_rfl))
  f316:=Tryz.func254.trans (congrArg some (by kernel_rfl))
  f317:=Tryz.func270.trans (congrArg some (by kernel_rfl))
  f318:=Tryz.func272.trans (congrArg some (by kernel_rfl))
  f319:=Tryz.func273.trans (congrArg some (by kernel_rfl))
  f320:=Tryz.func274.trans (congrArg some (by kernel_rfl))
  f321:=Tryz.func252.trans (congrArg some (by kernel_rfl))
  f322:=Tryz.func253.trans (congrArg some (by kernel_rfl))
  f337:=Tryz.func275.trans (congrArg some (by kernel_rfl))
  f338:=Tryz.func276.trans (congrArg some (by kernel_rfl))
  t0:=Tryz.underlying0
  a0:=Tryz.isAgg0
  z0:=Tryz.sizeOf0
  v0:=Tryz.zeroValue0
  t2:=Tryz.underlying2
  a2:=Tryz.isAgg2
  z2:=Tryz.sizeOf2
  v2:=Tryz.zeroValue2
  t3:=Tryz.underlying3
  a3:=Tryz.isAgg3
  z3:=Tryz.sizeOf3
  v3:=Tryz.zeroValue3
  t4:=Tryz.underlying4
  a4:=Tryz.isAgg4
  z4:=Tryz.sizeOf4
  v4:=Tryz.zeroValue4
  t5:=Tryz.underlying5
  a5:=Tryz.isAgg5
  z5:=Tryz.sizeOf5
  v5:=Tryz.zeroValue5
  t9:=Tryz.underlying9
  a9:=Tryz.isAgg9
  z9:=Tryz.sizeOf9
  v9:=Tryz.zeroValue9
  t20:=Tryz.underlying20
  a20:=Tryz.isAgg20
  z20:=Tryz.sizeOf20
  v20:=Tryz.zeroValue20
  t21:=Tryz.underlying21
  a21:=Tryz.isAgg21
  z21:=Tryz.sizeOf21
  v21:=Tryz.zeroValue21
  t37:=Tryz.underlying66
  a37:=Tryz.isAgg66
  z37:=Tryz.sizeOf66
  v37:=Tryz.zeroValue66
  t46:=Tryz.underlying183
  a46:=Tryz.isAgg183
  z46:=Tryz.sizeOf183
  v46:=Tryz.zeroValue183
  t51:=Tryz.underlying247
  a51:=Tryz.isAgg247
  z51:=Tryz.sizeOf247
  v51:=Tryz.zeroValue247
  t53:=Tryz.underlying250
  a53:=Tryz.isAgg250
  z53:=Tryz.sizeOf250
  v53:=Tryz.zeroValue250
  t75:=Tryz.underlying175
  a75:=Tryz.isAgg175
  z75:=Tryz.sizeOf175
  v75:=Tryz.zeroValue175
  t76:=Tryz.underlying176
  a76:=Tryz.isAgg176
  z76:=Tryz.sizeOf176
  v76:=Tryz.zeroValue176
  t85:=Tryz.underlying188
  a85:=Tryz.isAgg188
  z85:=Tryz.sizeOf188
  v85:=Tryz.zeroValue188
  t127:=Tryz.underlying245
  a127:=Tryz.isAgg245
  z127:=Tryz.sizeOf245
  v127:=Tryz.zeroValue245
  t143:=Tryz.underlying349
  a143:=Tryz.isAgg349
  z143:=Tryz.sizeOf349
  v143:=Tryz.zeroValue349
  t145:=Tryz.underlying351
  a145:=Tryz.isAgg351
  z145:=Tryz.sizeOf351
  v145:=Tryz.zeroValue351
  t167:=Tryz.underlying295
  a167:=Tryz.isAgg295
  z167:=Tryz.sizeOf295
  v167:=Tryz.zeroValue295
  t168:=Tryz.underlying298
  a168:=Tryz.isAgg298
  z168:=Tryz.sizeOf298
  v168:=Tryz.zeroValue298
  t171:=Tryz.underlying330
  a171:=Tryz.isAgg330
  z171:=Tryz.sizeOf330
  v171:=Tryz.zeroValue330
  t173:=Tryz.underlying333
  a173:=Tryz.isAgg333
  z173:=Tryz.sizeOf333
  v173:=Tryz.zeroValue333
  t175:=Tryz.underlying296
  a175:=Tryz.isAgg296
  z175:=Tryz.sizeOf296
  v175:=Tryz.zeroValue296
  t210:=Tryz.underlying338
  a210:=Tryz.isAgg338
  z210:=Tryz.sizeOf338
  v210:=Tryz.zeroValue338
  t212:=Tryz.underlying346
  a212:=Tryz.isAgg346
  z212:=Tryz.sizeOf346
  v212:=Tryz.zeroValue346
  t213:=Tryz.underlying347
  a213:=Tryz.isAgg347
  z213:=Tryz.sizeOf347
  t232:=Tryz.underlying353
  a232:=Tryz.isAgg353
  z232:=Tryz.sizeOf353
  v232:=Tryz.zeroValue353
  t233:=Tryz.underlying354
  a233:=Tryz.isAgg354
  z233:=Tryz.sizeOf354
  v233:=Tryz.zeroValue354
  g15:=by kernel_rfl
  g16:=by kernel_rfl
  g17:=by kernel_rfl
  g18:=by kernel_rfl
  g19:=by kernel_rfl }
open Go.RowKit in
theorem Tryz.strconv_Atoi (s : ByteArray) (n : Int) (hl : s.size ≤ 18) (h : Lib.atoi s.data.toList = some n) (w : World) :
    Calls Tryz.prog 230 #[.string s] w fun e w' => e = .returned (.tuple #[.int .i64 n, .nilIface]) ∧ ∃ t, w' = Lib.bytesWorld w 5 t:=Any.strconv_Atoi Tryz.lays172 s n hl h w
def Tryz.laysM171_ren : Go.Shelf.Ren:=⟨fun | 171 => 101 | 243 => 150 | 246 => 208 | 283 => 248 | 284 => 249 | 285 => 250 | 286 => 251 | 129 => 271 | 317 => 270 | 318 => 272 | 319 => 273 | 320 => 274 | 337 => 275 | 338 => 276 | n => n, fun | 3 => 3 | 9 => 9 | 2 => 2 | 4 => 4 | 171 => 330 | 0 => 0 | 53 => 250 | 37 => 66 | 5 => 5 | 173 => 333 | 212 => 346 | 51 => 247 | 20 => 20 | 213 => 347 | 46 => 183 | 232 => 353 | 233 => 354 | n => n, fun | 17 => 9 | 18 => 10 | 19 => 11 | n => n⟩
theorem Tryz.laysM171 : Go.Proofs.LaysM.n171 Tryz.prog Tryz.laysM171_ren:={
  mixed:=by kernel_rfl
  f129:=Tryz.func271.trans (congrArg some (by kernel_rfl))
  f171:=Tryz.func101.trans (congrArg some (by kernel_rfl))
  f243:=Tryz.func150.trans (congrArg some (by kernel_rfl))
  f246:=Tryz.func208.trans (congrArg some (by kernel_rfl))
  f283:=Tryz.func248.trans (congrArg some (by kernel_rfl))
  f284:=Tryz.func249.trans (congrArg some (by kernel_rfl))
  f285:=Tryz.func250.trans (congrArg some (by kernel_rfl))
  f286:=Tryz.func251.trans (congrArg some (by kernel_rfl))
  f317:=Tryz.func270.trans (congrArg some (by kernel_rfl))
  f318:=Tryz.func272.trans (congrArg some (by kernel_rfl))
  f319:=Tryz.func273.trans (congrArg some (by kernel_rfl))
  f320:=Tryz.func274.trans (congrArg some (by kernel_rfl))
  f337:=Tryz.func275.trans (congrArg some (by kernel_rfl))
  f338:=Tryz.func276.trans (congrArg some (by kernel_rfl))
  t0:=Tryz.underlying0
  a0:=Tryz.isAgg0
  z0:=Tryz.sizeOf0
  v0:=Tryz.zeroValue0
  t2:=Tryz.underlying2
  a2:=Tryz.isAgg2
  z2:=Tryz.sizeOf2
  v2:=Tryz.zeroValue2
  t3:=Tryz.underlying3
  a3:=Tryz.isAgg3
  z3:=Tryz.sizeOf3
  v3:=Tryz.zeroValue3
  t4:=Tryz.underlying4
  a4:=Tryz.isAgg4
  z4:=Tryz.sizeOf4
  v4:=Tryz.zeroValue4
  t5:=Tryz.underlying5
  a5:=Tryz.isAgg5
  z5:=Tryz.sizeOf5
  v5:=Tryz.zeroValue5
  t9:=Tryz.underlying9
  a9:=Tryz.isAgg9
  z9:=Tryz.sizeOf9
  v9:=Tryz.zeroValue9
  t20:=Tryz.underlying20
  a20:=Tryz.isAgg20
  z20:=Tryz.sizeOf20
  v20:=Tryz.zeroValue20
  t37:=Tryz.underlying66
  a37:=Tryz.isAgg66
  z37:=Tryz.sizeOf66
  v37:=Tryz.zeroValue66
  t46:=Tryz.underlying183
  a46:=Tryz.isAgg183
  z46:=Tryz.sizeOf183
  v46:=Tryz.zeroValue183
  t51:=Tryz.underlying247
  a51:=Tryz.isAgg247
  z51:=Tryz.sizeOf247
  v51:=Tryz.zeroValue247
  t53:=Tryz.underlying250
  a53:=Tryz.isAgg250
  z53:=Tryz.sizeOf250
  v53:=Tryz.zeroValue250
  t171:=Tryz.underlying330
  a171:=Tryz.isAgg330
  z171:=Tryz.sizeOf330
  v171:=Tryz.zeroValue330
  t173:=Tryz.underlying333
  a173:=Tryz.isAgg333
  z173:=Tryz.sizeOf333
  v173:=Tryz.zeroValue333
  t212:=Tryz.underlying346
  a212:=Tryz.isAgg346
  z212:=Tryz.sizeOf346
  v212:=Tryz.zeroValue346
  t213:=Tryz.underlying347
  a213:=Tryz.isAgg347
  z213:=Tryz.sizeOf347
  t232:=Tryz.underlying353
  a232:=Tryz.isAgg353
  z232:=Tryz.sizeOf353
  v232:=Tryz.zeroValue353
  t233:=Tryz.underlying354
  a233:=Tryz.isAgg354
  z233:=Tryz.sizeOf354
  v233:=Tryz.zeroValue354
  g17:=by kernel_rfl
  g18:=by kernel_rfl
  g19:=by kernel_rfl
  i0:=by kernel_rfl
  i2:=by kernel_rfl
  i3:=by kernel_rfl
  i4:=by kernel_rfl
  i5:=by kernel_rfl
  i9:=by kernel_rfl
  i20:=by kernel_rfl
  i37:=by kernel_rfl
  i46:=by kernel_rfl
  i51:=by kernel_rfl
  i53:=by kernel_rfl
  i171:=by kernel_rfl
  i173:=by kernel_rfl
  i212:=by kernel_rfl
  i232:=by kernel_rfl
  i233:=by kernel_rfl
  m17:=by kernel_rfl
  m18:=by kernel_rfl
  m19:=by kernel_rfl }
open Go.RowKit Go.Sort Go.Lib in
theorem Tryz.strconv_Itoa (n : Int) (h0 : -9223372036854775808 ≤ n) (h1 : n ≤ 9223372036854775807) (w : World) (htab : Lib.TabIs Tryz.prog w "internal/strconv.uint64pow10" .u64 Lib.pow10Tab) :
    Calls Tryz.prog 101 #[.int .i64 n] w fun e w' => e = .returned (.string ⟨(Lib.itoa n).toArray⟩) ∧ ∃ k os, w' = grow (w.drewN k) os:=Any.strconv_Itoa Tryz.laysM171 n h0 h1 w htab
def Tryz.lays144_ren : Go.Shelf.Ren:=⟨fun | 144 => 263 | 143 => 145 | 219 => 205 | 217 => 239 | 225 => 245 | 224 => 246 | 267 => 247 | 266 => 267 | 314 => 269 | n => n, fun | 9 => 9 | 4 => 4 | 3 => 3 | 5 => 5 | 46 => 183 | 146 => 248 | 51 => 247 | n => n, fun | 1 => 2 | n => n⟩
theorem Tryz.lays144 : Go.Proofs.Lays.n144 Tryz.prog Tryz.lays144_ren:={
  mixed:=by kernel_rfl
  f143:=Tryz.func145.trans (congrArg some (by kernel_rfl))
  f144:=Tryz.func263.trans (congrArg some (by kernel_rfl))
  f217:=Tryz.func239.trans (congrArg some (by kernel_rfl))
  f219:=Tryz.func205.trans (congrArg some (by kernel_rfl))
  f224:=Tryz.func246.trans (congrArg some (by kernel_rfl))
  f225:=Tryz.func245.trans (congrArg some (by kernel_rfl))
  f266:=Tryz.func267.trans (congrArg some (by kernel_rfl))
  f267:=Tryz.func247.trans (congrArg some (by kernel_rfl))
  f314:=Tryz.func269.trans (congrArg some (by kernel_rfl))
  t3:=Tryz.underlying3
  a3:=Tryz.isAgg3
  z3:=Tryz.sizeOf3
  v3:=Tryz.zeroValue3
  t4:=Tryz.underlying4
  a4:=Tryz.isAgg4
  z4:=Tryz.sizeOf4
  v4:=Tryz.zeroValue4
  t5:=Tryz.underlying5
  a5:=Tryz.isAgg5
  z5:=Tryz.sizeOf5
  v5:=Tryz.zeroValue5
  t9:=Tryz.underlying9
  a9:=Tryz.isAgg9
  z9:=Tryz.sizeOf9
  v9:=Tryz.zeroValue9
  t46:=Tryz.underlying183
  a46:=Tryz.isAgg183
  z46:=Tryz.sizeOf183
  v46:=Tryz.zeroValue183
  t51:=Tryz.underlying247
  a51:=Tryz.isAgg247
  z51:=Tryz.sizeOf247
  v51:=Tryz.zeroValue247
  t146:=Tryz.underlying248
  a146:=Tryz.isAgg248
  z146:=Tryz.sizeOf248
  v146:=Tryz.zeroValue248
  g1:=by kernel_rfl }
open Go.RowKit Go.Lib in
theorem Tryz.strings_Contains_one (s : ByteArray) (c : UInt8) (w : World) :
    Calls Tryz.prog 263 #[.string s, .string ⟨#[c]⟩] w fun e w' => e = .returned (.bool (decide (0 ≤ Lib.indexByte s.data.toList c))) ∧ w' = w:=Any.strings_Contains_one Tryz.lays144 s c w
def Tryz.lays145_ren : Go.Shelf.Ren:=⟨fun | 145 => 115 | 220 => 160 | 219 => 205 | 217 => 239 | 225 => 245 | 224 => 246 | 267 => 247 | 266 => 267 | 314 => 269 | n => n, fun | 9 => 9 | 4 => 4 | 59 => 199 | 3 => 3 | 5 => 5 | 46 => 183 | 146 => 248 | 51 => 247 | n => n, fun | 1 => 2 | n => n⟩
theorem Tryz.lays145 : Go.Proofs.Lays.n145 Tryz.prog Tryz.lays145_ren:={
  mixed:=by kernel_rfl
  f145:=Tryz.func115.trans (congrArg some (by kernel_rfl))
  f217:=Tryz.func239.trans (congrArg some (by kernel_rfl))
  f219:=Tryz.func205.trans (congrArg some (by kernel_rfl))
  f220:=Tryz.func160.trans (congrArg some (by kernel_rfl))
  f224:=Tryz.func246.trans (congrArg some (by kernel_rfl))
  f225:=Tryz.func245.trans (congrArg some (by kernel_rfl))
  f266:=Tryz.func267.trans (congrArg some (by kernel_rfl))
  f267:=Tryz.func247.trans (congrArg some (by kernel_rfl))
  f314:=Tryz.func269.trans (congrArg some (by kernel_rfl))
  t3:=Tryz.underlying3
  a3:=Tryz.isAgg3
  z3:=Tryz.sizeOf3
  v3:=Tryz.zeroValue3
  t4:=Tryz.underlying4
  a4:=Tryz.isAgg4
  z4:=Tryz.sizeOf4
  v4:=Tryz.zeroValue4
  t5:=Tryz.underlying5
  a5:=Tryz.isAgg5
  z5:=Tryz.sizeOf5
  v5:=Tryz.zeroValue5
  t9:=Tryz.underlying9
  a9:=Tryz.isAgg9
  z9:=Tryz.sizeOf9
  v9:=Tryz.zeroValue9
  t46:=Tryz.underlying183
  a46:=Tryz.isAgg183
  z46:=Tryz.sizeOf183
  v46:=Tryz.zeroValue183
  t51:=Tryz.underlying247
  a51:=Tryz.isAgg247
  z51:=Tryz.sizeOf247
  v51:=Tryz.zeroValue247
  t59:=Tryz.underlying199
  a59:=Tryz.isAgg199
  z59:=Tryz.sizeOf199
  v59:=Tryz.zeroValue199
  t146:=Tryz.underlying248
  a146:=Tryz.isAgg248
  z146:=Tryz.sizeOf248
  v146:=Tryz.zeroValue248
  g1:=by kernel_rfl }
open Go.RowKit Go.Lib in
theorem Tryz.strings_Cut (s sep : ByteArray) (m : Int) (w : World) (hs : s.size < 4294967281) (hm : w.cell? ⟨2, 0, none⟩ = some (.int .i64 m)) :
    Calls Tryz.prog 115 #[.string s, .string sep] w fun e w' => e = .returned (.tuple #[.string ⟨(Lib.cut s.data.toList sep.data.toList).1.toArray⟩, .string ⟨(Lib.cut s.data.toList sep.data.toList).2.1.toArray⟩, .bool (Lib.cut s.data.toList sep.data.toList).2.2]) ∧ ∃ n, w' = w.drewN n:=Any.strings_Cut Tryz.lays145 s sep m w hs hm
def Tryz.lays138_ren : Go.Shelf.Ren:=⟨fun | 138 => 125 | 195 => 172 | 218 => 173 | 143 => 145 | 219 => 205 | 217 => 239 | 225 => 245 | 224 => 246 | 267 => 247 | 266 => 267 | 314 => 269 | n => n, fun | 9 => 9 | 3 => 3 | 4 => 4 | 5 => 5 | 0 => 0 | 46 => 183 | 146 => 248 | 51 => 247 | n => n, fun | 1 => 2 | n => n⟩
theorem Tryz.lays138 : Go.Proofs.Lays.n138 Tryz.prog Tryz.lays138_ren:={
  mixed:=by kernel_rfl
  f138:=Tryz.func125.trans (congrArg some (by kernel_rfl))
  f143:=Tryz.func145.trans (congrArg some (by kernel_rfl))
  f195:=Tryz.func172.trans (congrArg some (by kernel_rfl))
  f217:=Tryz.func239.trans (congrArg some (by kernel_rfl))
  f218:=Tryz.func173.trans (congrArg some (by kernel_rfl))
  f219:=Tryz.func205.trans (congrArg some (by kernel_rfl))
  f224:=Tryz.func246.trans (congrArg some (by kernel_rfl))
  f225:=Tryz.func245.trans (congrArg some (by kernel_rfl))
  f266:=Tryz.func267.trans (congrArg some (by kernel_rfl))
  f267:=Tryz.func247.trans (congrArg some (by kernel_rfl))
  f314:=Tryz.func269.trans (congrArg some (by kernel_rfl))
  t0:=Tryz.underlying0
  a0:=Tryz.isAgg0
  z0:=Tryz.sizeOf0
  v0:=Tryz.zeroValue0
  t3:=Tryz.underlying3
  a3:=Tryz.isAgg3
  z3:=Tryz.sizeOf3
  v3:=Tryz.zeroValue3
  t4:=Tryz.underlying4
  a4:=Tryz.isAgg4
  z4:=Tryz.sizeOf4
  v4:=Tryz.zeroValue4
  t5:=Tryz.underlying5
  a5:=Tryz.isAgg5
  z5:=Tryz.sizeOf5
  v5:=Tryz.zeroValue5
  t9:=Tryz.underlying9
  a9:=Tryz.isAgg9
  z9:=Tryz.sizeOf9
  v9:=Tryz.zeroValue9
  t46:=Tryz.underlying183
  a46:=Tryz.isAgg183
  z46:=Tryz.sizeOf183
  v46:=Tryz.zeroValue183
  t51:=Tryz.underlying247
  a51:=Tryz.isAgg247
  z51:=Tryz.sizeOf247
  v51:=Tryz.zeroValue247
  t146:=Tryz.underlying248
  a146:=Tryz.isAgg248
  z146:=Tryz.sizeOf248
  v146:=Tryz.zeroValue248
  g1:=by kernel_rfl }
open Go.RowKit Go.Lib in
theorem Tryz.strings_Count_one (s : ByteArray) (c : UInt8) (w : World) :
    Calls Tryz.prog 125 #[.string s, .string ⟨#[c]⟩] w fun e w' => e = .returned (.int .i64 (Lib.countByte s.data.toList c)) ∧ w' = w:=Any.strings_Count_one Tryz.lays138 s c w
def Tryz.lays99_ren : Go.Shelf.Ren:=⟨fun | 99 => 104 | 206 => 153 | n => n, fun | 9 => 9 | 4 => 4 | 3 => 3 | n => n, fun | n => n⟩
theorem Tryz.lays99 : Go.Proofs.Lays.n99 Tryz.prog Tryz.lays99_ren:={
  mixed:=by kernel_rfl
  f99:=Tryz.func104.trans (congrArg some (by kernel_rfl))
  f206:=Tryz.func153.trans (congrArg some (by kernel_rfl))
  t3:=Tryz.underlying3
  a3:=Tryz.isAgg3
  z3:=Tryz.sizeOf3
  v3:=Tryz.zeroValue3
  t4:=Tryz.underlying4
  a4:=Tryz.isAgg4
  z4:=Tryz.sizeOf4
  v4:=Tryz.zeroValue4
  t9:=Tryz.underlying9
  a9:=Tryz.isAgg9
  z9:=Tryz.sizeOf9
  v9:=Tryz.zeroValue9 }
open Go.RowKit Go.Lib in
theorem Tryz.strings_HasPrefix (s p : ByteArray) (w : World) :
    Calls Tryz.prog 104 #[.string s, .string p] w fun e w' => e = .returned (.bool (Lib.hasPrefix s.data.toList p.data.toList)) ∧ w' = w:=Any.strings_HasPrefix Tryz.lays99 s p w
def Tryz.lays100_ren : Go.Shelf.Ren:=⟨fun | 100 => 98 | 207 => 149 | n => n, fun | 9 => 9 | 4 => 4 | 3 => 3 | n => n, fun | n => n⟩
theorem Tryz.lays100 : Go.Proofs.Lays.n100 Tryz.prog Tryz.lays100_ren:={
  mixed:=by kernel_rfl
  f100:=Tryz.func98.trans (congrArg some (by kernel_rfl))
  f207:=Tryz.func149.trans (congrArg some (by kernel_rfl))
  t3:=Tryz.underlying3
  a3:=Tryz.isAgg3
  z3:=Tryz.sizeOf3
  v3:=Tryz.zeroValue3
  t4:=Tryz.underlying4
  a4:=Tryz.isAgg4
  z4:=Tryz.sizeOf4
  v4:=Tryz.zeroValue4
  t9:=Tryz.underlying9
  a9:=Tryz.isAgg9
  z9:=Tryz.sizeOf9
  v9:=Tryz.zeroValue9 }
open Go.RowKit Go.Lib in
theorem Tryz.strings_HasSuffix (s p : ByteArray) (w : World) (hs : s.size ≤ 9223372036854775807) :
    Calls Tryz.prog 98 #[.string s, .string p] w fun e w' => e = .returned (.bool (Lib.hasSuffix s.data.toList p.data.toList)) ∧ w' = w:=Any.strings_HasSuffix Tryz.lays100 s p w hs
def Tryz.lays101_ren : Go.Shelf.Ren:=⟨fun | 101 => 114 | 208 => 159 | 206 => 153 | n => n, fun | 9 => 9 | 4 => 4 | 3 => 3 | n => n, fun | n => n⟩
theorem Tryz.lays101 : Go.Proofs.Lays.n101 Tryz.prog Tryz.lays101_ren:={
  mixed:=by kernel_rfl
  f101:=Tryz.func114.trans (congrArg some (by kernel_rfl))
  f206:=Tryz.func153.trans (congrArg some (by kernel_rfl))
  f208:=Tryz.func159.trans (congrArg some (by kernel_rfl))
  t3:=Tryz.underlying3
  a3:=Tryz.isAgg3
  z3:=Tryz.sizeOf3
  v3:=Tryz.zeroValue3
  t4:=Tryz.underlying4
  a4:=Tryz.isAgg4
  z4:=Tryz.sizeOf4
  v4:=Tryz.zeroValue4
  t9:=Tryz.underlying9
  a9:=Tryz.isAgg9
  z9:=Tryz.sizeOf9
  v9:=Tryz.zeroValue9 }
open Go.RowKit Go.Lib in
theorem Tryz.strings_TrimPrefix (s p : ByteArray) (w : World) :
    Calls Tryz.prog 114 #[.string s, .string p] w fun e w' => e = .returned (.string ⟨(Lib.trimPrefix s.data.toList p.data.toList).toArray⟩) ∧ w' = w:=Any.strings_TrimPrefix Tryz.lays101 s p w
def Tryz.lays102_ren : Go.Shelf.Ren:=⟨fun | 102 => 118 | 209 => 164 | 207 => 149 | n => n, fun | 9 => 9 | 4 => 4 | 3 => 3 | n => n, fun | n => n⟩
theorem Tryz.lays102 : Go.Proofs.Lays.n102 Tryz.prog Tryz.lays102_ren:={
  mixed:=by kernel_rfl
  f102:=Tryz.func118.trans (congrArg some (by kernel_rfl))
  f207:=Tryz.func149.trans (congrArg some (by kernel_rfl))
  f209:=Tryz.func164.trans (congrArg some (by kernel_rfl))
  t3:=Tryz.underlying3
  a3:=Tryz.isAgg3
  z3:=Tryz.sizeOf3
  v3:=Tryz.zeroValue3
  t4:=Tryz.underlying4
  a4:=Tryz.isAgg4
  z4:=Tryz.sizeOf4
  v4:=Tryz.zeroValue4
  t9:=Tryz.underlying9
  a9:=Tryz.isAgg9
  z9:=Tryz.sizeOf9
  v9:=Tryz.zeroValue9 }
open Go.RowKit Go.Lib in
theorem Tryz.strings_TrimSuffix (s p : ByteArray) (w : World) (hs : s.size ≤ 9223372036854775807) :
    Calls Tryz.prog 118 #[.string s, .string p] w fun e w' => e = .returned (.string ⟨(Lib.trimSuffix s.data.toList p.data.toList).toArray⟩) ∧ w' = w:=Any.strings_TrimSuffix Tryz.lays102 s p w hs
def Tryz.lays157_ren : Go.Shelf.Ren:=⟨fun | 157 => 92 | 229 => 143 | 199 => 144 | 261 => 204 | 311 => 243 | 312 => 244 | n => n, fun | 9 => 9 | 31 => 57 | 3 => 3 | 5 => 5 | 4 => 4 | 119 => 240 | 0 => 0 | 40 => 242 | 152 => 287 | 21 => 21 | 154 => 289 | 51 => 247 | 141 => 291 | 196 => 318 | 193 => 315 | 198 => 321 | 49 => 319 | 194 => 316 | 201 => 324 | 226 => 342 | 46 => 183 | 227 => 343 | n => n, fun | 0 => 0 | 6 => 1 | n => n⟩
theorem Tryz.lays157 : Go.Proofs.Lays.n157 Tryz.prog Tryz.lays157_ren:={
  mixed:=by kernel_rfl
  f157:=Tryz.func92.trans (congrArg some (by kernel_rfl))
  f199:=Tryz.func144.trans (congrArg some (by kernel_rfl))
  f229:=Tryz.func143.trans (congrArg some (by kernel_rfl))
  f261:=Tryz.func204.trans (congrArg some (by kernel_rfl))
  f311:=Tryz.func243.trans (congrArg some (by kernel_rfl))
  f312:=Tryz.func244.trans (congrArg some (by kernel_rfl))
  t0:=Tryz.underlying0
  a0:=Tryz.isAgg0
  z0:=Tryz.sizeOf0
  v0:=Tryz.zeroValue0
  t3:=Tryz.underlying3
  a3:=Tryz.isAgg3
  z3:=Tryz.sizeOf3
  v3:=Tryz.zeroValue3
  t4:=Tryz.underlying4
  a4:=Tryz.isAgg4
  z4:=Tryz.sizeOf4
  v4:=Tryz.zeroValue4
  t5:=Tryz.underlying5
  a5:=Tryz.isAgg5
  z5:=Tryz.sizeOf5
  v5:=Tryz.zeroValue5
  t9:=Tryz.underlying9
  a9:=Tryz.isAgg9
  z9:=Tryz.sizeOf9
  v9:=Tryz.zeroValue9
  t21:=Tryz.underlying21
  a21:=Tryz.isAgg21
  z21:=Tryz.sizeOf21
  v21:=Tryz.zeroValue21
  t31:=Tryz.underlying57
  a31:=Tryz.isAgg57
  z31:=Tryz.sizeOf57
  v31:=Tryz.zeroValue57
  t40:=Tryz.underlying242
  a40:=Tryz.isAgg242
  z40:=Tryz.sizeOf242
  v40:=Tryz.zeroValue242
  t46:=Tryz.underlying183
  a46:=Tryz.isAgg183
  z46:=Tryz.sizeOf183
  v46:=Tryz.zeroValue183
  t49:=Tryz.underlying319
  a49:=Tryz.isAgg319
  z49:=Tryz.sizeOf319
  v49:=Tryz.zeroValue319
  t51:=Tryz.underlying247
  a51:=Tryz.isAgg247
  z51:=Tryz.sizeOf247
  v51:=Tryz.zeroValue247
  t119:=Tryz.underlying240
  a119:=Tryz.isAgg240
  z119:=Tryz.sizeOf240
  t141:=Tryz.underlying291
  a141:=Tryz.isAgg291
  z141:=Tryz.sizeOf291
  v141:=Tryz.zeroValue291
  t152:=Tryz.underlying287
  a152:=Tryz.isAgg287
  z152:=Tryz.sizeOf287
  v152:=Tryz.zeroValue287
  t154:=Tryz.underlying289
  a154:=Tryz.isAgg289
  z154:=Tryz.sizeOf289
  v154:=Tryz.zeroValue289
  t193:=Tryz.underlying315
  a193:=Tryz.isAgg315
  z193:=Tryz.sizeOf315
  v193:=Tryz.zeroValue315
  t194:=Tryz.underlying316
  a194:=Tryz.isAgg316
  z194:=Tryz.sizeOf316
  v194:=Tryz.zeroValue316
  t196:=Tryz.underlying318
  a196:=Tryz.isAgg318
  z196:=Tryz.sizeOf318
  v196:=Tryz.zeroValue318
  t198:=Tryz.underlying321
  a198:=Tryz.isAgg321
  z198:=Tryz.sizeOf321
  v198:=Tryz.zeroValue321
  t201:=Tryz.underlying324
  a201:=Tryz.isAgg324
  z201:=Tryz.sizeOf324
  v201:=Tryz.zeroValue324
  t226:=Tryz.underlying342
  a226:=Tryz.isAgg342
  z226:=Tryz.sizeOf342
  v226:=Tryz.zeroValue342
  t227:=Tryz.underlying343
  a227:=Tryz.isAgg343
  z227:=Tryz.sizeOf343
  v227:=Tryz.zeroValue343
  g0:=by kernel_rfl
  g6:=by kernel_rfl }
open Go.RowKit Go.Lib in
theorem Tryz.strings_Fields (s : ByteArray) (w : World) (hs : s.size < 4294967281) (hascii : ∀ (j : Nat) b, s.data.toList[j]? = some b → b.toNat < 128) (htab : Lib.TabIs Tryz.prog w "strings.asciiSpace" .u8 Lib.asciiSpaceTab) :
    Calls Tryz.prog 92 #[.string s] w fun e w' =>
      e = .returned (.slice (some ⟨w.heap.size, 0, none⟩) (Lib.fields s.data.toList).length (Lib.fields s.data.toList).length) ∧ w' = w.alloc (.cells ((Lib.fields s.data.toList).map fun l => Value.string ⟨l.toArray⟩).toArray 9):=Any.strings_Fields Tryz.lays157 (by kernel_rfl) (by kernel_rfl) s w hs hascii htab
def Tryz.lays155_ren : Go.Shelf.Ren:=⟨fun | 155 => 57 | 154 => 94 | 138 => 125 | 165 => 95 | 143 => 145 | 166 => 96 | 197 => 146 | 169 => 97 | 195 => 172 | 218 => 173 | 240 => 147 | 241 => 148 | 219 => 205 | 260 => 206 | 276 => 207 | 277 => 197 | 217 => 239 | 225 => 245 | 224 => 246 | 267 => 247 | 266 => 267 | 314 => 269 | n => n, fun | 9 => 9 | 3 => 3 | 4 => 4 | 72 => 172 | 0 => 0 | 76 => 176 | 105 => 243 | 21 => 21 | 5 => 5 | 70 => 170 | 20 => 20 | 37 => 66 | 75 => 175 | 127 => 245 | 164 => 292 | 46 => 183 | 119 => 240 | 139 => 329 | 138 => 328 | 146 => 248 | 51 => 247 | 80 => 178 | n => n, fun | 1 => 2 | 3 => 5 | 4 => 6 | n => n⟩
theorem Tryz.lays155 : Go.Proofs.Lays.n155 Tryz.prog Tryz.lays155_ren:={
  mixed:=by kernel_rfl
  f138:=Tryz.func125.trans (congrArg some (by kernel_rfl))
  f143:=Tryz.func145.trans (congrArg some (by kernel_rfl))
  f154:=Tryz.func94.trans (congrArg some (by kernel_rfl))
  f155:=Tryz.func57.trans (congrArg some (by kernel_rfl))
  f165:=Tryz.func95.trans (congrArg some (by kernel_rfl))
  f166:=Tryz.func96.trans (congrArg some (by kernel_rfl))
  f169:=Tryz.func97.trans (congrArg some (by kernel_rfl))
  f195:=Tryz.func172.trans (congrArg some (by kernel_rfl))
  f197:=Tryz.func146.trans (congrArg some (by kernel_rfl))
  f217:=Tryz.func239.trans (congrArg some (by kernel_rfl))
  f218:=Tryz.func173.trans (congrArg some (by kernel_rfl))
  f219:=Tryz.func205.trans (congrArg some (by kernel_rfl))
  f224:=Tryz.func246.trans (congrArg some (by kernel_rfl))
  f225:=Tryz.func245.trans (congrArg some (by kernel_rfl))
  f240:=Tryz.func147.trans (congrArg some (by kernel_rfl))
  f241:=Tryz.func148.trans (congrArg some (by kernel_rfl))
  f260:=Tryz.func206.trans (congrArg some (by kernel_rfl))
  f266:=Tryz.func267.trans (congrArg some (by kernel_rfl))
  f267:=Tryz.func247.trans (congrArg some (by kernel_rfl))
  f276:=Tryz.func207.trans (congrArg some (by kernel_rfl))
  f277:=Tryz.func197.trans (congrArg some (by kernel_rfl))
  f314:=Tryz.func269.trans (congrArg some (by kernel_rfl))
  t0:=Tryz.underlying0
  a0:=Tryz.isAgg0
  z0:=Tryz.sizeOf0
  v0:=Tryz.zeroValue0
  t3:=Tryz.underlying3
  a3:=Tryz.isAgg3
  z3:=Tryz.sizeOf3
  v3:=Tryz.zeroValue3
  t4:=Tryz.underlying4
  a4:=Tryz.isAgg4
  z4:=Tryz.sizeOf4
  v4:=Tryz.zeroValue4
  t5:=Tryz.underlying5
  a5:=Tryz.isAgg5
  z5:=Tryz.sizeOf5
  v5:=Tryz.zeroValue5
  t9:=Tryz.underlying9
  a9:=Tryz.isAgg9
  z9:=Tryz.sizeOf9
  v9:=Tryz.zeroValue9
  t20:=Tryz.underlying20
  a20:=Tryz.isAgg20
  z20:=Tryz.sizeOf20
  v20:=Tryz.zeroValue20
  t21:=Tryz.underlying21
  a21:=Tryz.isAgg21
  z21:=Tryz.sizeOf21
  v21:=Tryz.zeroValue21
  t37:=Tryz.underlying66
  a37:=Tryz.isAgg66
  z37:=Tryz.sizeOf66
  v37:=Tryz.zeroValue66
  t46:=Tryz.underlying183
  a46:=Tryz.isAgg183
  z46:=Tryz.sizeOf183
  v46:=Tryz.zeroValue183
  t51:=Tryz.underlying247
  a51:=Tryz.isAgg247
  z51:=Tryz.sizeOf247
  v51:=Tryz.zeroValue247
  t70:=Tryz.underlying170
  a70:=Tryz.isAgg170
  z70:=Tryz.sizeOf170
  v70:=Tryz.zeroValue170
  t72:=Tryz.underlying172
  a72:=Tryz.isAgg172
  z72:=Tryz.sizeOf172
  v72:=Tryz.zeroValue172
  t75:=Tryz.underlying175
  a75:=Tryz.isAgg175
  z75:=Tryz.sizeOf175
  v75:=Tryz.zeroValue175
  t76:=Tryz.underlying176
  a76:=Tryz.isAgg176
  z76:=Tryz.sizeOf176
  v76:=Tryz.zeroValue176
  t105:=Tryz.underlying243
  a105:=Tryz.isAgg243
  z105:=Tryz.sizeOf243
  v105:=Tryz.zeroValue243
  t119:=Tryz.underlying240
  a119:=Tryz.isAgg240
  z119:=Tryz.sizeOf240
  t127:=Tryz.underlying245
  a127:=Tryz.isAgg245
  z127:=Tryz.sizeOf245
  v127:=Tryz.zeroValue245
  t138:=Tryz.underlying328
  a138:=Tryz.isAgg328
  z138:=Tryz.sizeOf328
  v138:=Tryz.zeroValue328
  t139:=Tryz.underlying329
  a139:=Tryz.isAgg329
  z139:=Tryz.sizeOf329
  v139:=Tryz.zeroValue329
  t146:=Tryz.underlying248
  a146:=Tryz.isAgg248
  z146:=Tryz.sizeOf248
  v146:=Tryz.zeroValue248
  t164:=Tryz.underlying292
  a164:=Tryz.isAgg292
  z164:=Tryz.sizeOf292
  v164:=Tryz.zeroValue292
  g1:=by kernel_rfl
  g3:=by kernel_rfl
  g4:=by kernel_rfl }
theorem Tryz.Builder_Extra_155 : Builder.Extra Tryz.prog Tryz.lays155_ren:={
  sizeBuilder:=by kernel_rfl
  liesBuilder:=by kernel_rfl
  t5:=Tryz.underlying5
  a5:=Tryz.isAgg5
  z5:=Tryz.sizeOf5
  v5:=Tryz.zeroValue5
  infoByte:=by kernel_rfl
  cellsByte:=by kernel_rfl
  sizeByte:=by kernel_rfl
  neB5:=by decide }
open Go.RowKit Go.Lib in
theorem Tryz.strings_ReplaceAll (s old new : ByteArray) (m : Int) (w : World) (hs : s.size < 4294967281) (hm : w.cell? ⟨2, 0, none⟩ = some (.int .i64 m)) (h1 : 1 ≤ old.size) (hlen : s.size + Lib.countB s old * new.size ≤ 140737488355328) :
    Calls Tryz.prog 57 #[.string s, .string old, .string new] w fun e w' =>
      e = .returned (.string ⟨(Lib.replaceAll s.data.toList old.data.toList new.data.toList).toArray⟩) ∧ Below w.heap.size w w':=Any.strings_ReplaceAll Tryz.lays155 Tryz.Builder_Extra_155 s old new m w hs hm h1 hlen
def Tryz.lays151_ren : Go.Shelf.Ren:=⟨fun | 151 => 157 | 152 => 214 | 137 => 196 | 119 => 256 | 224 => 246 | 225 => 245 | 217 => 239 | 266 => 267 | n => n, fun | 9 => 9 | 21 => 21 | 4 => 4 | 3 => 3 | 5 => 5 | 0 => 0 | 46 => 183 | n => n, fun | n => n⟩
theorem Tryz.lays151 : Go.Proofs.Lays.n151 Tryz.prog Tryz.lays151_ren:={
  mixed:=by kernel_rfl
  f119:=Tryz.func256.trans (congrArg some (by kernel_rfl))
  f137:=Tryz.func196.trans (congrArg some (by kernel_rfl))
  f151:=Tryz.func157.trans (congrArg some (by kernel_rfl))
  f152:=Tryz.func214.trans (congrArg some (by kernel_rfl))
  f217:=Tryz.func239.trans (congrArg some (by kernel_rfl))
  f224:=Tryz.func246.trans (congrArg some (by kernel_rfl))
  f225:=Tryz.func245.trans (congrArg some (by kernel_rfl))
  f266:=Tryz.func267.trans (congrArg some (by kernel_rfl))
  t0:=Tryz.underlying0
  a0:=Tryz.isAgg0
  z0:=Tryz.sizeOf0
  v0:=Tryz.zeroValue0
  t3:=Tryz.underlying3
  a3:=Tryz.isAgg3
  z3:=Tryz.sizeOf3
  v3:=Tryz.zeroValue3
  t4:=Tryz.underlying4
  a4:=Tryz.isAgg4
  z4:=Tryz.sizeOf4
  v4:=Tryz.zeroValue4
  t5:=Tryz.underlying5
  a5:=Tryz.isAgg5
  z5:=Tryz.sizeOf5
  v5:=Tryz.zeroValue5
  t9:=Tryz.underlying9
  a9:=Tryz.isAgg9
  z9:=Tryz.sizeOf9
  v9:=Tryz.zeroValue9
  t21:=Tryz.underlying21
  a21:=Tryz.isAgg21
  z21:=Tryz.sizeOf21
  v21:=Tryz.zeroValue21
  t46:=Tryz.underlying183
  a46:=Tryz.isAgg183
  z46:=Tryz.sizeOf183
  v46:=Tryz.zeroValue183 }
open Go.RowKit Go.Lib in
theorem Tryz.strings_ContainsRune_ascii (s : ByteArray) (r : Int) (w : World) (h0 : 0 ≤ r) (h1 : r < 128) :
    Calls Tryz.prog 157 #[.string s, .int .i32 r] w fun e w' => e = .returned (.bool (decide (0 ≤ Lib.indexByte s.data.toList r.toNat.toUInt8))) ∧ w' = w:=Any.strings_ContainsRune_ascii Tryz.lays151 s r w h0 h1
def Tryz.lays150_ren : Go.Shelf.Ren:=⟨fun | 150 => 177 | 153 => 232 | 152 => 214 | 226 => 266 | 227 => 109 | 228 => 156 | 137 => 196 | 119 => 256 | 224 => 246 | 225 => 245 | 217 => 239 | 266 => 267 | n => n, fun | 9 => 9 | 4 => 4 | 3 => 3 | 5 => 5 | 21 => 21 | 117 => 193 | 116 => 192 | 0 => 0 | 46 => 183 | 124 => 196 | n => n, fun | n => n⟩
theorem Tryz.lays150 : Go.Proofs.Lays.n150 Tryz.prog Tryz.lays150_ren:={
  mixed:=by kernel_rfl
  f119:=Tryz.func256.trans (congrArg some (by kernel_rfl))
  f137:=Tryz.func196.trans (congrArg some (by kernel_rfl))
  f150:=Tryz.func177.trans (congrArg some (by kernel_rfl))
  f152:=Tryz.func214.trans (congrArg some (by kernel_rfl))
  f153:=Tryz.func232.trans (congrArg some (by kernel_rfl))
  f217:=Tryz.func239.trans (congrArg some (by kernel_rfl))
  f224:=Tryz.func246.trans (congrArg some (by kernel_rfl))
  f225:=Tryz.func245.trans (congrArg some (by kernel_rfl))
  f226:=Tryz.func266.trans (congrArg some (by kernel_rfl))
  f227:=Tryz.func109.trans (congrArg some (by kernel_rfl))
  f228:=Tryz.func156.trans (congrArg some (by kernel_rfl))
  f266:=Tryz.func267.trans (congrArg some (by kernel_rfl))
  t0:=Tryz.underlying0
  a0:=Tryz.isAgg0
  z0:=Tryz.sizeOf0
  v0:=Tryz.zeroValue0
  t3:=Tryz.underlying3
  a3:=Tryz.isAgg3
  z3:=Tryz.sizeOf3
  v3:=Tryz.zeroValue3
  t4:=Tryz.underlying4
  a4:=Tryz.isAgg4
  z4:=Tryz.sizeOf4
  v4:=Tryz.zeroValue4
  t5:=Tryz.underlying5
  a5:=Tryz.isAgg5
  z5:=Tryz.sizeOf5
  v5:=Tryz.zeroValue5
  t9:=Tryz.underlying9
  a9:=Tryz.isAgg9
  z9:=Tryz.sizeOf9
  v9:=Tryz.zeroValue9
  t21:=Tryz.underlying21
  a21:=Tryz.isAgg21
  z21:=Tryz.sizeOf21
  v21:=Tryz.zeroValue21
  t46:=Tryz.underlying183
  a46:=Tryz.isAgg183
  z46:=Tryz.sizeOf183
  v46:=Tryz.zeroValue183
  t116:=Tryz.underlying192
  a116:=Tryz.isAgg192
  z116:=Tryz.sizeOf192
  t117:=Tryz.underlying193
  a117:=Tryz.isAgg193
  z117:=Tryz.sizeOf193
  v117:=Tryz.zeroValue193
  t124:=Tryz.underlying196
  a124:=Tryz.isAgg196
  z124:=Tryz.sizeOf196
  v124:=Tryz.zeroValue196 }
open Go.RowKit Go.Lib in
theorem Tryz.strings_ContainsAny_laid (s chars : ByteArray) (w : World) (hs : s.size < 4294967281) (hcs : chars.size < 4294967281) (has : ∀ (j : Nat) b, s.data.toList[j]? = some b → b.toNat < 128) (hac : ∀ (j : Nat) b, chars.data.toList[j]? = some b → b.toNat < 128) :
    Calls Tryz.prog 177 #[.string s, .string chars] w fun e w' => e = .returned (.bool (Lib.containsAny s.data.toList chars.data.toList)) ∧ Below w.heap.size w w':=Any.strings_ContainsAny_laid Tryz.lays150 (by kernel_rfl) s chars w hs hcs has hac
def Tryz.lays212_ren : Go.Shelf.Ren:=⟨fun | 212 => 103 | 263 => 151 | 264 => 152 | n => n, fun | 46 => 183 | 51 => 247 | 146 => 248 | 53 => 250 | 148 => 251 | n => n, fun | n => n⟩
theorem Tryz.lays212 : Go.Proofs.Lays.n212 Tryz.prog Tryz.lays212_ren:={
  mixed:=by kernel_rfl
  f212:=Tryz.func103.trans (congrArg some (by kernel_rfl))
  f263:=Tryz.func151.trans (congrArg some (by kernel_rfl))
  f264:=Tryz.func152.trans (congrArg some (by kernel_rfl))
  t46:=Tryz.underlying183
  a46:=Tryz.isAgg183
  z46:=Tryz.sizeOf183
  v46:=Tryz.zeroValue183
  t51:=Tryz.underlying247
  a51:=Tryz.isAgg247
  z51:=Tryz.sizeOf247
  v51:=Tryz.zeroValue247
  t53:=Tryz.underlying250
  a53:=Tryz.isAgg250
  z53:=Tryz.sizeOf250
  v53:=Tryz.zeroValue250
  t146:=Tryz.underlying248
  a146:=Tryz.isAgg248
  z146:=Tryz.sizeOf248
  v146:=Tryz.zeroValue248
  t148:=Tryz.underlying251
  a148:=Tryz.isAgg251
  z148:=Tryz.sizeOf251
  v148:=Tryz.zeroValue251 }
open Go.RowKit Go.Lib in
theorem Tryz.bits_Mul (x y : Nat) (hx : x < 18446744073709551616) (hy : y < 18446744073709551616) (w : World) :
    Calls Tryz.prog 103 #[.int .u64 x, .int .u64 y] w fun e w' => e = .returned (.tuple #[.int .u64 ((x * y / 18446744073709551616 : Nat) : Int), .int .u64 ((x * y % 18446744073709551616 : Nat) : Int)]) ∧ w' = w:=Any.bits_Mul Tryz.lays212 x y hx hy w
def Tryz.lays105_ren : Go.Shelf.Ren:=⟨fun | 105 => 66 | 212 => 103 | 99 => 104 | 165 => 95 | 166 => 96 | 170 => 105 | 169 => 97 | 263 => 151 | 264 => 152 | 206 => 153 | 240 => 147 | 241 => 148 | 276 => 207 | 277 => 197 | n => n, fun | 9 => 9 | 3 => 3 | 4 => 4 | 20 => 20 | 0 => 0 | 46 => 183 | 109 => 184 | 5 => 5 | 72 => 172 | 76 => 176 | 51 => 247 | 146 => 248 | 53 => 250 | 148 => 251 | 70 => 170 | 37 => 66 | 75 => 175 | 127 => 245 | 164 => 292 | 80 => 178 | n => n, fun | n => n⟩
theorem Tryz.lays105 : Go.Proofs.Lays.n105 Tryz.prog Tryz.lays105_ren:={
  mixed:=by kernel_rfl
  f99:=Tryz.func104.trans (congrArg some (by kernel_rfl))
  f105:=Tryz.func66.trans (congrArg some (by kernel_rfl))
  f165:=Tryz.func95.trans (congrArg some (by kernel_rfl))
  f166:=Tryz.func96.trans (congrArg some (by kernel_rfl))
  f169:=Tryz.func97.trans (congrArg some (by kernel_rfl))
  f170:=Tryz.func105.trans (congrArg some (by kernel_rfl))
  f206:=Tryz.func153.trans (congrArg some (by kernel_rfl))
  f212:=Tryz.func103.trans (congrArg some (by kernel_rfl))
  f240:=Tryz.func147.trans (congrArg some (by kernel_rfl))
  f241:=Tryz.func148.trans (congrArg some (by kernel_rfl))
  f263:=Tryz.func151.trans (congrArg some (by kernel_rfl))
  f264:=Tryz.func152.trans (congrArg some (by kernel_rfl))
  f276:=Tryz.func207.trans (congrArg some (by kernel_rfl))
  f277:=Tryz.func197.trans (congrArg some (by kernel_rfl))
  t0:=Tryz.underlying0
  a0:=Tryz.isAgg0
  z0:=Tryz.sizeOf0
  v0:=Tryz.zeroValue0
  t3:=Tryz.underlying3
  a3:=Tryz.isAgg3
  z3:=Tryz.sizeOf3
  v3:=Tryz.zeroValue3
  t4:=Tryz.underlying4
  a4:=Tryz.isAgg4
  z4:=Tryz.sizeOf4
  v4:=Tryz.zeroValue4
  t5:=Tryz.underlying5
  a5:=Tryz.isAgg5
  z5:=Tryz.sizeOf5
  v5:=Tryz.zeroValue5
  t9:=Tryz.underlying9
  a9:=Tryz.isAgg9
  z9:=Tryz.sizeOf9
  v9:=Tryz.zeroValue9
  t20:=Tryz.underlying20
  a20:=Tryz.isAgg20
  z20:=Tryz.sizeOf20
  v20:=Tryz.zeroValue20
  t37:=Tryz.underlying66
  a37:=Tryz.isAgg66
  z37:=Tryz.sizeOf66
  v37:=Tryz.zeroValue66
  t46:=Tryz.underlying183
  a46:=Tryz.isAgg183
  z46:=Tryz.sizeOf183
  v46:=Tryz.zeroValue183
  t51:=Tryz.underlying247
  a51:=Tryz.isAgg247
  z51:=Tryz.sizeOf247
  v51:=Tryz.zeroValue247
  t53:=Tryz.underlying250
  a53:=Tryz.isAgg250
  z53:=Tryz.sizeOf250
  v53:=Tryz.zeroValue250
  t70:=Tryz.underlying170
  a70:=Tryz.isAgg170
  z70:=Tryz.sizeOf170
  v70:=Tryz.zeroValue170
  t72:=Tryz.underlying172
  a72:=Tryz.isAgg172
  z72:=Tryz.sizeOf172
  v72:=Tryz.zeroValue172
  t75:=Tryz.underlying175
  a75:=Tryz.isAgg175
  z75:=Tryz.sizeOf175
  v75:=Tryz.zeroValue175
  t76:=Tryz.underlying176
  a76:=Tryz.isAgg176
  z76:=Tryz.sizeOf176
  v76:=Tryz.zeroValue176
  t109:=Tryz.underlying184
  a109:=Tryz.isAgg184
  z109:=Tryz.sizeOf184
  v109:=Tryz.zeroValue184
  t127:=Tryz.underlying245
  a127:=Tryz.isAgg245
  z127:=Tryz.sizeOf245
  v127:=Tryz.zeroValue245
  t146:=Tryz.underlying248
  a146:=Tryz.isAgg248
  z146:=Tryz.sizeOf248
  v146:=Tryz.zeroValue248
  t148:=Tryz.underlying251
  a148:=Tryz.isAgg251
  z148:=Tryz.sizeOf251
  v148:=Tryz.zeroValue251
  t164:=Tryz.underlying292
  a164:=Tryz.isAgg292
  z164:=Tryz.sizeOf292
  v164:=Tryz.zeroValue292 }
theorem Tryz.Builder_Extra_105 : Builder.Extra Tryz.prog Tryz.lays105_ren:={
  sizeBuilder:=by kernel_rfl
  liesBuilder:=by kernel_rfl
  t5:=Tryz.underlying5
  a5:=Tryz.isAgg5
  z5:=Tryz.sizeOf5
  v5:=Tryz.zeroValue5
  infoByte:=by kernel_rfl
  cellsByte:=by kernel_rfl
  sizeByte:=by kernel_rfl
  neB5:=by decide }
open Go.RowKit Go.Lib in
theorem Tryz.strings_Repeat (s : ByteArray) (c : Nat) (w : World) (hc : c ≤ 9223372036854775807) (hlen : s.size * c ≤ 140737488355328) :
    Calls Tryz.prog 66 #[.string s, .int .i64 c] w fun e w' => e = .returned (.string ⟨(Lib.repeatL s.data.toList c).toArray⟩) ∧ Below w.heap.size w w':=Any.strings_Repeat Tryz.lays105 Tryz.Builder_Extra_105 s c w hc hlen
end Go.Proofs
