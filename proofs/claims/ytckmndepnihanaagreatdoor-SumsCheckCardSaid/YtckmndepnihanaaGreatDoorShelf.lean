/-
  Contracts of the library functions that the law reaches.
-/
import Derived.Shelf.Strings.Builder1
import Derived.Shelf.Strings.Builder2
import Derived.Shelf.Strings.OnBuilder
import Derived.Shelf.Strings.Trim
import Derived.Shelf.Small.Utf8
import Derived.Shelf.Small.Strs
import Derived.Shelf.Small.Wraps
import Derived.Shelf.Strings.BuilderF
import Derived.Shelf.Strings.BuilderK
import Derived.Shelf.Strings.BuilderRune
import Derived.Shelf.Strings.Builder2Cap
import Derived.Shelf.Strconv.Atoi
import Derived.Shelf.Strconv.Itoa0
import Derived.Shelf.Strconv.Itoa1
import Derived.Shelf.LaysM
import Derived.Shelf.Strconv.Itoa2
import Derived.Shelf.Strconv.Itoa3
import Derived.Shelf.Strconv.ParseIntEmpty
import Derived.Shelf.Strconv.Clone
import Derived.Shelf.Strconv.SyntaxError
import Derived.Shelf.LaysC
import Derived.Shelf.Strconv.ToError
import Derived.Shelf.Strconv.Lower
import Derived.Shelf.Strconv.ParseUint10
import Derived.Shelf.Strconv.ParseUint10Empty
import Derived.Shelf.Strconv.ParseUint10Any
import Derived.Shelf.Strconv.ParseInt10
import Derived.Shelf.Strconv.RangeError
import Derived.Shelf.Strconv.ToErrorRange
import Derived.Shelf.Strconv.ParseUintEmpty
import Derived.Shelf.Strconv.ParseUint10b64
import Derived.Shelf.Strconv.ParseUint10b32
import Derived.Shelf.Strconv.ParseUint10b16
import Derived.Shelf.Strconv.ParseUint10b8
import Derived.Shelf.Strconv.ParseUint10At
import Derived.Shelf.Strconv.ParseInt10At64
import Derived.Shelf.Strconv.ParseInt10At32
import Derived.Shelf.Strconv.ParseInt10At16
import Derived.Shelf.Strconv.ParseInt10At8
import Derived.Shelf.Strconv.ParseInt10All
import Derived.Shelf.Strconv.ParseIntPublic10
import Derived.Shelf.Strings.Search1
import Derived.Shelf.Strings.Search2
import Derived.Shelf.Strings.Search3
import Derived.Shelf.Strings.Cut
import Derived.Shelf.Strings.Count
import Derived.Shelf.Strings.Shaped
import Derived.Shelf.GgClosure.StringsIndexFunc
import Derived.Shelf.Strings.Prefix
import Derived.Shelf.Strings.Split
import Derived.Shelf.Strings.Fields
import Derived.Shelf.Strings.Replace
import Derived.Shelf.Unicode.Latin
import Derived.Shelf.Strings.Runes
import Derived.Shelf.Strings.IndexAny
import Derived.Shelf.Strings.AsciiSet
import Derived.Shelf.Strings.IndexAnyAll
import Derived.Shelf.Bits.Mul64
import Derived.Shelf.Strings.Repeat
import Derived.Shelf.Unicode.DecodeSlow
import Derived.Shelf.Unicode.DecodeAny
import Derived.Shelf.Unicode.Is16White
import Derived.Shelf.Unicode.IsSpaceAny
import Derived.Shelf.Strings.MapAny
import Derived.Shelf.Unicode.Is16Any
import Derived.Shelf.Unicode.Is32Any
import Derived.Shelf.Unicode.ExclAny
import Derived.Shelf.Strings.BuilderCap
import Derived.Shelf.Strings.MapGrows
import Derived.Test.YtckmndepnihanaaGreatDoorProg
namespace Go.Proofs
open Go.Shelf
def Tryz.lays161_ren : Go.Shelf.Ren:=⟨fun | 161 => 87 | 231 => 119 | 227 => 121 | 233 => 122 | 235 => 124 | 228 => 178 | 197 => 140 | 151 => 174 | 260 => 201 | 152 => 224 | 137 => 189 | 119 => 254 | 224 => 240 | 225 => 239 | 217 => 229 | 266 => 255 | n => n, fun | 9 => 9 | 4 => 4 | 3 => 3 | 5 => 5 | 117 => 209 | 116 => 208 | 0 => 0 | 124 => 212 | 105 => 231 | 21 => 21 | 119 => 242 | 46 => 114 | 139 => 309 | 138 => 308 | n => n, fun | 3 => 5 | 4 => 6 | n => n⟩
theorem Tryz.lays161 : Go.Proofs.Lays.n161 Tryz.prog Tryz.lays161_ren:={
  mixed:=by kernel_rfl
  f119:=Tryz.func254.trans (congrArg some (by kernel_rfl))
  f137:=Tryz.func189.trans (congrArg some (by kernel_rfl))
  f151:=Tryz.func174.trans (congrArg some (by kernel_rfl))
  f152:=Tryz.func224.trans (congrArg some (by kernel_rfl))
  f161:=Tryz.func87.trans (congrArg some (by kernel_rfl))
  f197:=Tryz.func140.trans (congrArg some (by kernel_rfl))
  f217:=Tryz.func229.trans (congrArg some (by kernel_rfl))
  f224:=Tryz.func240.trans (congrArg some (by kernel_rfl))
  f225:=Tryz.func239.trans (congrArg some (by kernel_rfl))
  f227:=Tryz.func121.trans (congrArg some (by kernel_rfl))
  f228:=Tryz.func178.trans (congrArg some (by kernel_rfl))
  f231:=Tryz.func119.trans (congrArg some (by kernel_rfl))
  f233:=Tryz.func122.trans (congrArg some (by kernel_rfl))
  f235:=Tryz.func124.trans (congrArg some (by kernel_rfl))
  f260:=Tryz.func201.trans (congrArg some (by kernel_rfl))
  f266:=Tryz.func255.trans (congrArg some (by kernel_rfl))
  t0:=Tryz.underlying0
  a0:=Tryz.isAgg0
  z0:=Tryz.sizeOf0
  v0:=Tryz.zeroValue0
  t3:=Tryz.underlying3
  a3:=Tryz.isAgg3
  z3:=Tryz.sizeOf3
  v3:=Tryz.zeroValue3
  t4:=Tryz.underlying4
  a4:=Tryz.isAgg4
  z4:=Tryz.sizeOf4
  v4:=Tryz.zeroValue4
  t5:=Tryz.underlying5
  a5:=Tryz.isAgg5
  z5:=Tryz.sizeOf5
  v5:=Tryz.zeroValue5
  t9:=Tryz.underlying9
  a9:=Tryz.isAgg9
  z9:=Tryz.sizeOf9
  v9:=Tryz.zeroValue9
  t21:=Tryz.underlying21
  a21:=Tryz.isAgg21
  z21:=Tryz.sizeOf21
  v21:=Tryz.zeroValue21
  t46:=Tryz.underlying114
  a46:=Tryz.isAgg114
  z46:=Tryz.sizeOf114
  v46:=Tryz.zeroValue114
  t105:=Tryz.underlying231
  a105:=Tryz.isAgg231
  z105:=Tryz.sizeOf231
  v105:=Tryz.zeroValue231
  t116:=Tryz.underlying208
  a116:=Tryz.isAgg208
  z116:=Tryz.sizeOf208
  t117:=Tryz.underlying209
  a117:=Tryz.isAgg209
  z117:=Tryz.sizeOf209
  v117:=Tryz.zeroValue209
  t119:=Tryz.underlying242
  a119:=Tryz.isAgg242
  z119:=Tryz.sizeOf242
  t124:=Tryz.underlying212
  a124:=Tryz.isAgg212
  z124:=Tryz.sizeOf212
  v124:=Tryz.zeroValue212
  t138:=Tryz.underlying308
  a138:=Tryz.isAgg308
  z138:=Tryz.sizeOf308
  v138:=Tryz.zeroValue308
  t139:=Tryz.underlying309
  a139:=Tryz.isAgg309
  z139:=Tryz.sizeOf309
  v139:=Tryz.zeroValue309
  g3:=by kernel_rfl
  g4:=by kernel_rfl }
def Tryz.lays162_ren : Go.Shelf.Ren:=⟨fun | 162 => 171 | 232 => 120 | 227 => 121 | 234 => 123 | 236 => 125 | 228 => 178 | 271 => 179 | 151 => 174 | 120 => 227 | 197 => 140 | 152 => 224 | 260 => 201 | 137 => 189 | 119 => 254 | 224 => 240 | 225 => 239 | 217 => 229 | 266 => 255 | n => n, fun | 9 => 9 | 4 => 4 | 3 => 3 | 5 => 5 | 117 => 209 | 116 => 208 | 0 => 0 | 124 => 212 | 21 => 21 | 105 => 231 | 46 => 114 | 119 => 242 | 139 => 309 | 138 => 308 | n => n, fun | 3 => 5 | 4 => 6 | n => n⟩
theorem Tryz.lays162 : Go.Proofs.Lays.n162 Tryz.prog Tryz.lays162_ren:={
  mixed:=by kernel_rfl
  f119:=Tryz.func254.trans (congrArg some (by kernel_rfl))
  f120:=Tryz.func227.trans (congrArg some (by kernel_rfl))
  f137:=Tryz.func189.trans (congrArg some (by kernel_rfl))
  f151:=Tryz.func174.trans (congrArg some (by kernel_rfl))
  f152:=Tryz.func224.trans (congrArg some (by kernel_rfl))
  f162:=Tryz.func171.trans (congrArg some (by kernel_rfl))
  f197:=Tryz.func140.trans (congrArg some (by kernel_rfl))
  f217:=Tryz.func229.trans (congrArg some (by kernel_rfl))
  f224:=Tryz.func240.trans (congrArg some (by kernel_rfl))
  f225:=Tryz.func239.trans (congrArg some (by kernel_rfl))
  f227:=Tryz.func121.trans (congrArg some (by kernel_rfl))
  f228:=Tryz.func178.trans (congrArg some (by kernel_rfl))
  f232:=Tryz.func120.trans (congrArg some (by kernel_rfl))
  f234:=Tryz.func123.trans (congrArg some (by kernel_rfl))
  f236:=Tryz.func125.trans (congrArg some (by kernel_rfl))
  f260:=Tryz.func201.trans (congrArg some (by kernel_rfl))
  f266:=Tryz.func255.trans (congrArg some (by kernel_rfl))
  f271:=Tryz.func179.trans (congrArg some (by kernel_rfl))
  t0:=Tryz.underlying0
  a0:=Tryz.isAgg0
  z0:=Tryz.sizeOf0
  v0:=Tryz.zeroValue0
  t3:=Tryz.underlying3
  a3:=Tryz.isAgg3
  z3:=Tryz.sizeOf3
  v3:=Tryz.zeroValue3
  t4:=Tryz.underlying4
  a4:=Tryz.isAgg4
  z4:=Tryz.sizeOf4
  v4:=Tryz.zeroValue4
  t5:=Tryz.underlying5
  a5:=Tryz.isAgg5
  z5:=Tryz.sizeOf5
  v5:=Tryz.zeroValue5
  t9:=Tryz.underlying9
  a9:=Tryz.isAgg9
  z9:=Tryz.sizeOf9
  v9:=Tryz.zeroValue9
  t21:=Tryz.underlying21
  a21:=Tryz.isAgg21
  z21:=Tryz.sizeOf21
  v21:=Tryz.zeroValue21
  t46:=Tryz.underlying114
  a46:=Tryz.isAgg114
  z46:=Tryz.sizeOf114
  v46:=Tryz.zeroValue114
  t105:=Tryz.underlying231
  a105:=Tryz.isAgg231
  z105:=Tryz.sizeOf231
  v105:=Tryz.zeroValue231
  t116:=Tryz.underlying208
  a116:=Tryz.isAgg208
  z116:=Tryz.sizeOf208
  t117:=Tryz.underlying209
  a117:=Tryz.isAgg209
  z117:=Tryz.sizeOf209
  v117:=Tryz.zeroValue209
  t119:=Tryz.underlying242
  a119:=Tryz.isAgg242
  z119:=Tryz.sizeOf242
  t124:=Tryz.underlying212
  a124:=Tryz.isAgg212
  z124:=Tryz.sizeOf212
  v124:=Tryz.zeroValue212
  t138:=Tryz.underlying308
  a138:=Tryz.isAgg308
  z138:=Tryz.sizeOf308
  v138:=Tryz.zeroValue308
  t139:=Tryz.underlying309
  a139:=Tryz.isAgg309
  z139:=Tryz.sizeOf309
  v139:=Tryz.zeroValue309
  g3:=by kernel_rfl
  g4:=by kernel_rfl }
def Tryz.lays160_ren : Go.Shelf.Ren:=⟨fun | 160 => 73 | 232 => 120 | 231 => 119 | 227 => 121 | 234 => 123 | 233 => 122 | 236 => 125 | 235 => 124 | 228 => 178 | 271 => 179 | 151 => 174 | 197 => 140 | 120 => 227 | 152 => 224 | 260 => 201 | 137 => 189 | 119 => 254 | 224 => 240 | 225 => 239 | 217 => 229 | 266 => 255 | n => n, fun | 9 => 9 | 4 => 4 | 3 => 3 | 5 => 5 | 117 => 209 | 116 => 208 | 0 => 0 | 124 => 212 | 21 => 21 | 105 => 231 | 46 => 114 | 119 => 242 | 139 => 309 | 138 => 308 | n => n, fun | 3 => 5 | 4 => 6 | n => n⟩
theorem Tryz.lays160 : Go.Proofs.Lays.n160 Tryz.prog Tryz.lays160_ren:={
  mixed:=by kernel_rfl
  f119:=Tryz.func254.trans (congrArg some (by kernel_rfl))
  f120:=Tryz.func227.trans (congrArg some (by kernel_rfl))
  f137:=Tryz.func189.trans (congrArg some (by kernel_rfl))
  f151:=Tryz.func174.trans (congrArg some (by kernel_rfl))
  f152:=Tryz.func224.trans (congrArg some (by kernel_rfl))
  f160:=Tryz.func73.trans (congrArg some (by kernel_rfl))
  f197:=Tryz.func140.trans (congrArg some (by kernel_rfl))
  f217:=Tryz.func229.trans (congrArg some (by kernel_rfl))
  f224:=Tryz.func240.trans (congrArg some (by kernel_rfl))
  f225:=Tryz.func239.trans (congrArg some (by kernel_rfl))
  f227:=Tryz.func121.trans (congrArg some (by kernel_rfl))
  f228:=Tryz.func178.trans (congrArg some (by kernel_rfl))
  f231:=Tryz.func119.trans (congrArg some (by kernel_rfl))
  f232:=Tryz.func120.trans (congrArg some (by kernel_rfl))
  f233:=Tryz.func122.trans (congrArg some (by kernel_rfl))
  f234:=Tryz.func123.trans (congrArg some (by kernel_rfl))
  f235:=Tryz.func124.trans (congrArg some (by kernel_rfl))
  f236:=Tryz.func125.trans (congrArg some (by kernel_rfl))
  f260:=Tryz.func201.trans (congrArg some (by kernel_rfl))
  f266:=Tryz.func255.trans (congrArg some (by kernel_rfl))
  f271:=Tryz.func179.trans (congrArg some (by kernel_rfl))
  t0:=Tryz.underlying0
  a0:=Tryz.isAgg0
  z0:=Tryz.sizeOf0
  v0:=Tryz.zeroValue0
  t3:=Tryz.underlying3
  a3:=Tryz.isAgg3
  z3:=Tryz.sizeOf3
  v3:=Tryz.zeroValue3
  t4:=Tryz.underlying4
  a4:=Tryz.isAgg4
  z4:=Tryz.sizeOf4
  v4:=Tryz.zeroValue4
  t5:=Tryz.underlying5
  a5:=Tryz.isAgg5
  z5:=Tryz.sizeOf5
  v5:=Tryz.zeroValue5
  t9:=Tryz.underlying9
  a9:=Tryz.isAgg9
  z9:=Tryz.sizeOf9
  v9:=Tryz.zeroValue9
  t21:=Tryz.underlying21
  a21:=Tryz.isAgg21
  z21:=Tryz.sizeOf21
  v21:=Tryz.zeroValue21
  t46:=Tryz.underlying114
  a46:=Tryz.isAgg114
  z46:=Tryz.sizeOf114
  v46:=Tryz.zeroValue114
  t105:=Tryz.underlying231
  a105:=Tryz.isAgg231
  z105:=Tryz.sizeOf231
  v105:=Tryz.zeroValue231
  t116:=Tryz.underlying208
  a116:=Tryz.isAgg208
  z116:=Tryz.sizeOf208
  t117:=Tryz.underlying209
  a117:=Tryz.isAgg209
  z117:=Tryz.sizeOf209
  v117:=Tryz.zeroValue209
  t119:=Tryz.underlying242
  a119:=Tryz.isAgg242
  z119:=Tryz.sizeOf242
  t124:=Tryz.underlying212
  a124:=Tryz.isAgg212
  z124:=Tryz.sizeOf212
  v124:=Tryz.zeroValue212
  t138:=Tryz.underlying308
  a138:=Tryz.isAgg308
  z138:=Tryz.sizeOf308
  v138:=Tryz.zeroValue308
  t139:=Tryz.underlying309
  a139:=Tryz.isAgg309
  z139:=Tryz.sizeOf309
  v139:=Tryz.zeroValue309
  g3:=by kernel_rfl
  g4:=by kernel_rfl }
def Tryz.lays118_ren : Go.Shelf.Ren:=⟨fun | 118 => 191 | n => n, fun | 21 => 21 | 3 => 3 | 4 => 4 | n => n, fun | n => n⟩
theorem Tryz.lays118 : Go.Proofs.Lays.n118 Tryz.prog Tryz.lays118_ren:={
  mixed:=by kernel_rfl
  f118:=Tryz.func191.trans (congrArg some (by kernel_rfl))
  t3:=Tryz.underlying3
  a3:=Tryz.isAgg3
  z3:=Tryz.sizeOf3
  v3:=Tryz.zeroValue3
  t4:=Tryz.underlying4
  a4:=Tryz.isAgg4
  z4:=Tryz.sizeOf4
  v4:=Tryz.zeroValue4
  t21:=Tryz.underlying21
  a21:=Tryz.isAgg21
  z21:=Tryz.sizeOf21
  v21:=Tryz.zeroValue21 }
theorem Tryz.utf8_RuneLen (r : Int) (w : World) :
    Calls Tryz.prog 191 #[.int .i32 r] w fun e w' => e = .returned (.int .i64 (Lib.runeLen r)) ∧ w' = w:=Any.utf8_RuneLen Tryz.lays118 r w
def Tryz.lays137_ren : Go.Shelf.Ren:=⟨fun | 137 => 189 | 217 => 229 | 266 => 255 | n => n, fun | 9 => 9 | 5 => 5 | 3 => 3 | n => n, fun | n => n⟩
theorem Tryz.lays137 : Go.Proofs.Lays.n137 Tryz.prog Tryz.lays137_ren:={
  mixed:=by kernel_rfl
  f137:=Tryz.func189.trans (congrArg some (by kernel_rfl))
  f217:=Tryz.func229.trans (congrArg some (by kernel_rfl))
  f266:=Tryz.func255.trans (congrArg some (by kernel_rfl))
  t3:=Tryz.underlying3
  a3:=Tryz.isAgg3
  z3:=Tryz.sizeOf3
  v3:=Tryz.zeroValue3
  t5:=Tryz.underlying5
  a5:=Tryz.isAgg5
  z5:=Tryz.sizeOf5
  v5:=Tryz.zeroValue5
  t9:=Tryz.underlying9
  a9:=Tryz.isAgg9
  z9:=Tryz.sizeOf9
  v9:=Tryz.zeroValue9 }
open Go.RowKit in
theorem Tryz.strings_IndexByte (s : ByteArray) (c : Int) (w : World) :
    Calls Tryz.prog 189 #[.string s, .int .u8 c] w fun e w' => e = .returned (.int .i64 (Lib.indexByte s.data.toList c.toNat.toUInt8)) ∧ w' = w:=Any.strings_IndexByte Tryz.lays137 s c w
def Tryz.lays103_ren : Go.Shelf.Ren:=⟨fun | 103 => 169 | 210 => 222 | 206 => 150 | n => n, fun | 9 => 9 | 4 => 4 | 24 => 143 | 3 => 3 | n => n, fun | n => n⟩
theorem Tryz.lays103 : Go.Proofs.Lays.n103 Tryz.prog Tryz.lays103_ren:={
  mixed:=by kernel_rfl
  f103:=Tryz.func169.trans (congrArg some (by kernel_rfl))
  f206:=Tryz.func150.trans (congrArg some (by kernel_rfl))
  f210:=Tryz.func222.trans (congrArg some (by kernel_rfl))
  t3:=Tryz.underlying3
  a3:=Tryz.isAgg3
  z3:=Tryz.sizeOf3
  v3:=Tryz.zeroValue3
  t4:=Tryz.underlying4
  a4:=Tryz.isAgg4
  z4:=Tryz.sizeOf4
  v4:=Tryz.zeroValue4
  t9:=Tryz.underlying9
  a9:=Tryz.isAgg9
  z9:=Tryz.sizeOf9
  v9:=Tryz.zeroValue9
  t24:=Tryz.underlying143
  a24:=Tryz.isAgg143
  z24:=Tryz.sizeOf143
  v24:=Tryz.zeroValue143 }
open Go.RowKit in
theorem Tryz.strings_CutPrefix (s p : ByteArray) (w : World) :
    Calls Tryz.prog 169 #[.string s, .string p] w fun e w' => e = .returned (.tuple #[.string ⟨(Lib.trimPrefix s.data.toList p.data.toList).toArray⟩, .bool (Lib.hasPrefix s.data.toList p.data.toList)]) ∧ w' = w:=Any.strings_CutPrefix Tryz.lays103 s p w
def Tryz.lays104_ren : Go.Shelf.Ren:=⟨fun | 104 => 172 | 211 => 223 | 207 => 147 | n => n, fun | 9 => 9 | 4 => 4 | 24 => 143 | 3 => 3 | n => n, fun | n => n⟩
theorem Tryz.lays104 : Go.Proofs.Lays.n104 Tryz.prog Tryz.lays104_ren:={
  mixed:=by kernel_rfl
  f104:=Tryz.func172.trans (congrArg some (by kernel_rfl))
  f207:=Tryz.func147.trans (congrArg some (by kernel_rfl))
  f211:=Tryz.func223.trans (congrArg some (by kernel_rfl))
  t3:=Tryz.underlying3
  a3:=Tryz.isAgg3
  z3:=Tryz.sizeOf3
  v3:=Tryz.zeroValue3
  t4:=Tryz.underlying4
  a4:=Tryz.isAgg4
  z4:=Tryz.sizeOf4
  v4:=Tryz.zeroValue4
  t9:=Tryz.underlying9
  a9:=Tryz.isAgg9
  z9:=Tryz.sizeOf9
  v9:=Tryz.zeroValue9
  t24:=Tryz.underlying143
  a24:=Tryz.isAgg143
  z24:=Tryz.sizeOf143
  v24:=Tryz.zeroValue143 }
open Go.RowKit in
theorem Tryz.strings_CutSuffix (s p : ByteArray) (w : World) (hs : s.size ≤ 9223372036854775807) :
    Calls Tryz.prog 172 #[.string s, .string p] w fun e w' => e = .returned (.tuple #[.string ⟨(Lib.trimSuffix s.data.toList p.data.toList).toArray⟩, .bool (Lib.hasSuffix s.data.toList p.data.toList)]) ∧ w' = w:=Any.strings_CutSuffix Tryz.lays104 s p w hs
def Tryz.lays172_ren : Go.Shelf.Ren:=⟨fun | 172 => 219 | 244 => 252 | 245 => 199 | 247 => 198 | 279 => 235 | 280 => 236 | 281 => 237 | 282 => 238 | 287 => 234 | 316 => 263 | 171 => 135 | 205 => 264 | 321 => 261 | 322 => 262 | 243 => 197 | 246 => 233 | 283 => 257 | 284 => 258 | 285 => 259 | 286 => 260 | 129 => 267 | 317 => 266 | 318 => 268 | 319 => 269 | 320 => 270 | 337 => 271 | 338 => 272 | n => n, fun | 9 => 9 | 3 => 3 | 75 => 168 | 76 => 169 | 4 => 4 | 5 => 5 | 167 => 300 | 37 => 38 | 0 => 0 | 85 => 229 | 2 => 2 | 168 => 303 | 53 => 239 | 175 => 301 | 46 => 114 | 210 => 331 | 127 => 233 | 145 => 342 | 143 => 340 | 21 => 21 | 171 => 324 | 173 => 327 | 212 => 337 | 51 => 236 | 20 => 20 | 213 => 338 | 232 => 344 | 233 => 345 | 80 => 67 | n => n, fun | 15 => 7 | 16 => 8 | 17 => 9 | 18 => 10 | 19 => 11 | n => n⟩
theorem Tryz.lays172 : Go.Proofs.Lays.n172 Tryz.prog Tryz.lays172_ren:={
  mixed:=by kernel_rfl
  f129:=Tryz.func267.trans (congrArg some (by kernel_rfl))
  f171:=Tryz.func135.trans (congrArg some (by kernel_rfl))
  f172:=Tryz.func219.trans (congrArg some (by kernel_rfl))
  f205:=Tryz.func264.trans (congrArg some (by kernel_rfl))
  f243:=Tryz.func197.trans (congrArg some (by kernel_rfl))
  f244:=Tryz.func252.trans (congrArg some (by kernel_rfl))
  f245:=Tryz.func199.trans (congrArg some (by kernel_rfl))
  f246:=Tryz.func233.trans (congrArg some (by kernel_rfl))
  f247:=Tryz.func198.trans (congrArg some (by kernel_rfl))
  f279:=Tryz.func235.trans (congrArg some (by kernel_rfl))
  f280:=Tryz.func236.trans (congrArg some (by kernel_rfl))
  f281:=Tryz.func237.trans (congrArg some (by kernel_rfl))
  f282:=Tryz.func238.trans (congrArg some (by kernel_rfl))
  f283:=Tryz.func257.trans (congrArg some (by kernel_rfl))
  f284:=Tryz.func258.trans (congrArg some (by kernel_rfl))
  f285:=Tryz.func259.trans (congrArg some (by kernel_rfl))
  f286:=Tryz.func260.trans (congrArg some (by kernel_rfl))
  f287:=Tryz.func234.trans (congrArg some (by kernel_rfl))
  f316:=Tryz.func263.trans (congrArg some (by kernel_rfl))
  f317:=Tryz.func266.trans (congrArg some (by kernel_rfl))
  f318:=Tryz.func268.trans (congrArg some (by kernel_rfl))
  f319:=Tryz.func269.trans (congrArg some (by kernel_rfl))
  f320:=Tryz.func270.trans (congrArg some (by kernel_rfl))
  f321:=Tryz.func261.trans (congrArg some (by kernel_rfl))
  f322:=Tryz.func262.trans (congrArg some (by kernel_rfl))
  f337:=Tryz.func271.trans (congrArg some (by kernel_rfl))
  f338:=Tryz.func272.trans (congrArg some (by kernel_rfl))
  t0:=Tryz.underlying0
  a0:=Tryz.isAgg0
  z0:=Tryz.sizeOf0
  v0:=Tryz.zeroValue0
  t2:=Tryz.underlying2
  a2:=Tryz.isAgg2
  z2:=Tryz.sizeOf2
  v2:=Tryz.zeroValue2
  t3:=Tryz.underlying3
  a3:=Tryz.isAgg3
  z3:=Tryz.sizeOf3
  v3:=Tryz.zeroValue3
  t4:=Tryz.underlying4
  a4:=Tryz.isAgg4
  z4:=Tryz.sizeOf4
  v4:=Tryz.zeroValue4
  t5:=Tryz.underlying5
  a5:=Tryz.isAgg5
  z5:=Tryz.sizeOf5
  v5:=Tryz.zeroValue5
  t9:=Tryz.underlying9
  a9:=Tryz.isAgg9
  z9:=Tryz.sizeOf9
  v9:=Tryz.zeroValue9
  t20:=Tryz.underlying20
  a20:=Tryz.isAgg20
  z20:=Tryz.sizeOf20
  v20:=Tryz.zeroValue20
  t21:=Tryz.underlying21
  a21:=Tryz.isAgg21
  z21:=Tryz.sizeOf21
  v21:=Tryz.zeroValue21
  t37:=Tryz.underlying38
  a37:=Tryz.isAgg38
  z37:=Tryz.sizeOf38
  v37:=Tryz.zeroValue38
  t46:=Tryz.underlying114
  a46:=Tryz.isAgg114
  z46:=Tryz.sizeOf114
  v46:=Tryz.zeroValue114
  t51:=Tryz.underlying236
  a51:=Tryz.isAgg236
  z51:=Tryz.sizeOf236
  v51:=Tryz.zeroValue236
  t53:=Tryz.underlying239
  a53:=Tryz.isAgg239
  z53:=Tryz.sizeOf239
  v53:=Tryz.zeroValue239
  t75:=Tryz.underlying168
  a75:=Tryz.isAgg168
  z75:=Tryz.sizeOf168
  v75:=Tryz.zeroValue168
  t76:=Tryz.underlying169
  a76:=Tryz.isAgg169
  z76:=Tryz.sizeOf169
  v76:=Tryz.zeroValue169
  t85:=Tryz.underlying229
  a85:=Tryz.isAgg229
  z85:=Tryz.sizeOf229
  v85:=Tryz.zeroValue229
  t127:=Tryz.underlying233
  a127:=Tryz.isAgg233
  z127:=Tryz.sizeOf233
  v127:=Tryz.zeroValue233
  t143:=Tryz.underlying340
  a143:=Tryz.isAgg340
  z143:=Tryz.sizeOf340
  v143:=Tryz.zeroValue340
  t145:=Tryz.underlying342
  a145:=Tryz.isAgg342
  z145:=Tryz.sizeOf342
  v145:=Tryz.zeroValue342
  t167:=Tryz.underlying300
  a167:=Tryz.isAgg300
  z167:=Tryz.sizeOf300
  v167:=Tryz.zeroValue300
  t168:=Tryz.underlying303
  a168:=Tryz.isAgg303
  z168:=Tryz.sizeOf303
  v168:=Tryz.zeroValue303
  t171:=Tryz.underlying324
  a171:=Tryz.isAgg324
  z171:=Tryz.sizeOf324
  v171:=Tryz.zeroValue324
  t173:=Tryz.underlying327
  a173:=Tryz.isAgg327
  z173:=Tryz.sizeOf327
  v173:=Tryz.zeroValue327
  t175:=Tryz.underlying301
  a175:=Tryz.isAgg301
  z175:=Tryz.sizeOf301
  v175:=Tryz.zeroValue301
  t210:=Tryz.underlying331
  a210:=Tryz.isAgg331
  z210:=Tryz.sizeOf331
  v210:=Tryz.zeroValue331
  t212:=Tryz.underlying337
  a212:=Tryz.isAgg337
  z212:=Tryz.sizeOf337
  v212:=Tryz.zeroValue337
  t213:=Tryz.underlying338
  a213:=Tryz.isAgg338
  z213:=Tryz.sizeOf338
  t232:=Tryz.underlying344
  a232:=Tryz.isAgg344
  z232:=Tryz.sizeOf344
  v232:=Tryz.zeroValue344
  t233:=Tryz.underlying345
  a233:=Tryz.isAgg345
  z233:=Tryz.sizeOf345
  v233:=Tryz.zeroValue345
  g15:=by kernel_rfl
  g16:=by kernel_rfl
  g17:=by kernel_rfl
  g18:=by kernel_rfl
  g19:=by kernel_rfl }
open Go.RowKit in
theorem Tryz.strconv_Atoi (s : ByteArray) (n : Int) (hl : s.size ≤ 18) (h : Lib.atoi s.data.toList = some n) (w : World) :
    Calls Tryz.prog 219 #[.string s] w fun e w' => e = .returned (.tuple #[.int .i64 n, .nilIface]) ∧ ∃ t, w' = Lib.bytesWorld w 5 t:=Any.strconv_Atoi Tryz.lays172 s n hl h w
def Tryz.laysM171_ren : Go.Shelf.Ren:=⟨fun | 171 => 135 | 243 => 197 | 246 => 233 | 283 => 257 | 284 => 258 | 285 => 259 | 286 => 260 | 129 => 267 | 317 => 266 | 318 => 268 | 319 => 269 | 320 => 270 | 337 => 271 | 338 => 272 | n => n, fun | 3 => 3 | 9 => 9 | 2 => 2 | 4 => 4 | 171 => 324 | 0 => 0 | 53 => 239 | 37 => 38 | 5 => 5 | 173 => 327 | 212 => 337 | 51 => 236 | 20 => 20 | 213 => 338 | 46 => 114 | 232 => 344 | 233 => 345 | n => n, fun | 17 => 9 | 18 => 10 | 19 => 11 | n => n⟩
theorem Tryz.laysM171 : Go.Proofs.LaysM.n171 Tryz.prog Tryz.laysM171_ren:={
  mixed:=by kernel_rfl
  f129:=Tryz.func267.trans (congrArg some (by kernel_rfl))
  f171:=Tryz.func135.trans (congrArg some (by kernel_rfl))
  f243:=Tryz.func197.trans (congrArg some (by kernel_rfl))
  f246:=Tryz.func233.trans (congrArg some (by kernel_rfl))
  f283:=Tryz.func257.trans (congrArg some (by kernel_rfl))
  f284:=Tryz.func258.trans (congrArg some (by kernel_rfl))
  f285:=Tryz.func259.trans (congrArg some (by kernel_rfl))
  f286:=Tryz.func260.trans (congrArg some (by kernel_rfl))
  f317:=Tryz.func266.trans (congrArg some (by kernel_rfl))
  f318:=Tryz.func268.trans (congrArg some (by kernel_rfl))
  f319:=Tryz.func269.trans (congrArg some (by kernel_rfl))
  f320:=Tryz.func270.trans (congrArg some (by kernel_rfl))
  f337:=Tryz.func271.trans (congrArg some (by kernel_rfl))
  f338:=Tryz.func272.trans (congrArg some (by kernel_rfl))
  t0:=Tryz.underlying0
  a0:=Tryz.isAgg0
  z0:=Tryz.sizeOf0
  v0:=Tryz.zeroValue0
  t2:=Tryz.underlying2
  a2:=Tryz.isAgg2
  z2:=Tryz.sizeOf2
  v2:=Tryz.zeroValue2
  t3:=Tryz.underlying3
  a3:=Tryz.isAgg3
  z3:=Tryz.sizeOf3
  v3:=Tryz.zeroValue3
  t4:=Tryz.underlying4
  a4:=Tryz.isAgg4
  z4:=Tryz.sizeOf4
  v4:=Tryz.zeroValue4
  t5:=Tryz.underlying5
  a5:=Tryz.isAgg5
  z5:=Tryz.sizeOf5
  v5:=Tryz.zeroValue5
  t9:=Tryz.underlying9
  a9:=Tryz.isAgg9
  z9:=Tryz.sizeOf9
  v9:=Tryz.zeroValue9
  t20:=Tryz.underlying20
  a20:=Tryz.isAgg20
  z20:=Tryz.sizeOf20
  v20:=Tryz.zeroValue20
  t37:=Tryz.underlying38
  a37:=Tryz.isAgg38
  z37:=Tryz.sizeOf38
  v37:=Tryz.zeroValue38
  t46:=Tryz.underlying114
  a46:=Tryz.isAgg114
  z46:=Tryz.sizeOf114
  v46:=Tryz.zeroValue114
  t51:=Tryz.underlying236
  a51:=Tryz.isAgg236
  z51:=Tryz.sizeOf236
  v51:=Tryz.zeroValue236
  t53:=Tryz.underlying239
  a53:=Tryz.isAgg239
  z53:=Tryz.sizeOf239
  v53:=Tryz.zeroValue239
  t171:=Tryz.underlying324
  a171:=Tryz.isAgg324
  z171:=Tryz.sizeOf324
  v171:=Tryz.zeroValue324
  t173:=Tryz.underlying327
  a173:=Tryz.isAgg327
  z173:=Tryz.sizeOf327
  v173:=Tryz.zeroValue327
  t212:=Tryz.underlying337
  a212:=Tryz.isAgg337
  z212:=Tryz.sizeOf337
  v212:=Tryz.zeroValue337
  t213:=Tryz.underlying338
  a213:=Tryz.isAgg338
  z213:=Tryz.sizeOf338
  t232:=Tryz.underlying344
  a232:=Tryz.isAgg344
  z232:=Tryz.sizeOf344
  v232:=Tryz.zeroValue344
  t233:=Tryz.underlying345
  a233:=Tryz.isAgg345
  z233:=Tryz.sizeOf345
  v233:=Tryz.zeroValue345
  g17:=by kernel_rfl
  g18:=by kernel_rfl
  g19:=by kernel_rfl
  i0:=by kernel_rfl
  i2:=by kernel_rfl
  i3:=by kernel_rfl
  i4:=by kernel_rfl
  i5:=by kernel_rfl
  i9:=by kernel_rfl
  i20:=by kernel_rfl
  i37:=by kernel_rfl
  i46:=by kernel_rfl
  i51:=by kernel_rfl
  i53:=by kernel_rfl
  i171:=by kernel_rfl
  i173:=by kernel_rfl
  i212:=by kernel_rfl
  i232:=by kernel_rfl
  i233:=by kernel_rfl
  m17:=by kernel_rfl
  m18:=by kernel_rfl
  m19:=by kernel_rfl }
open Go.RowKit Go.Sort Go.Lib in
theorem Tryz.strconv_Itoa (n : Int) (h0 : -9223372036854775808 ≤ n) (h1 : n ≤ 9223372036854775807) (w : World) (htab : Lib.TabIs Tryz.prog w "internal/strconv.uint64pow10" .u64 Lib.pow10Tab) :
    Calls Tryz.prog 135 #[.int .i64 n] w fun e w' => e = .returned (.string ⟨(Lib.itoa n).toArray⟩) ∧ ∃ k os, w' = grow (w.drewN k) os:=Any.strconv_Itoa Tryz.laysM171 n h0 h1 w htab
def Tryz.laysC174_ren : Go.Shelf.Ren:=⟨fun | 174 => 138 | 247 => 198 | 245 => 199 | 287 => 234 | 279 => 235 | 280 => 236 | 281 => 237 | 282 => 238 | 321 => 261 | 322 => 262 | 316 => 263 | 171 => 135 | 205 => 264 | 243 => 197 | 246 => 233 | 283 => 257 | 284 => 258 | 285 => 259 | 286 => 260 | 129 => 267 | 317 => 266 | 318 => 268 | 319 => 269 | 320 => 270 | 337 => 271 | 338 => 272 | n => n, fun | 9 => 9 | 3 => 3 | 2 => 2 | 75 => 168 | 85 => 229 | 4 => 4 | 167 => 300 | 5 => 5 | 53 => 239 | 175 => 301 | 46 => 114 | 168 => 303 | 37 => 38 | 0 => 0 | 210 => 331 | 21 => 21 | 127 => 233 | 145 => 342 | 143 => 340 | 171 => 324 | 173 => 327 | 212 => 337 | 51 => 236 | 20 => 20 | 213 => 338 | 232 => 344 | 233 => 345 | 80 => 67 | n => n, fun | 15 => 7 | 16 => 8 | 17 => 9 | 18 => 10 | 19 => 11 | n => n⟩
theorem Tryz.laysC174 : Go.Proofs.LaysC.n174 Tryz.prog Tryz.laysC174_ren:={
  mixed:=by kernel_rfl
  f129:=Tryz.func267.trans (congrArg some (by kernel_rfl))
  f171:=Tryz.func135.trans (congrArg some (by kernel_rfl))
  f174:=Tryz.func138.trans (congrArg some (by kernel_rfl))
  f205:=Tryz.func264.trans (congrArg some (by kernel_rfl))
  f243:=Tryz.func197.trans (congrArg some (by kernel_rfl))
  f245:=Tryz.func199.trans (congrArg some (by kernel_rfl))
  f246:=Tryz.func233.trans (congrArg some (by kernel_rfl))
  f247:=Tryz.func198.trans (congrArg some (by kernel_rfl))
  f279:=Tryz.func235.trans (congrArg some (by kernel_rfl))
  f280:=Tryz.func236.trans (congrArg some (by kernel_rfl))
  f281:=Tryz.func237.trans (congrArg some (by kernel_rfl))
  f282:=Tryz.func238.trans (congrArg some (by kernel_rfl))
  f283:=Tryz.func257.trans (congrArg some (by kernel_rfl))
  f284:=Tryz.func258.trans (congrArg some (by kernel_rfl))
  f285:=Tryz.func259.trans (congrArg some (by kernel_rfl))
  f286:=Tryz.func260.trans (congrArg some (by kernel_rfl))
  f287:=Tryz.func234.trans (congrArg some (by kernel_rfl))
  f316:=Tryz.func263.trans (congrArg some (by kernel_rfl))
  f317:=Tryz.func266.trans (congrArg some (by kernel_rfl))
  f318:=Tryz.func268.trans (congrArg some (by kernel_rfl))
  f319:=Tryz.func269.trans (congrArg some (by kernel_rfl))
  f320:=Tryz.func270.trans (congrArg some (by kernel_rfl))
  f321:=Tryz.func261.trans (congrArg some (by kernel_rfl))
  f322:=Tryz.func262.trans (congrArg some (by kernel_rfl))
  f337:=Tryz.func271.trans (congrArg some (by kernel_rfl))
  f338:=Tryz.func272.trans (congrArg some (by kernel_rfl))
  t0:=Tryz.underlying0
  a0:=Tryz.isAgg0
  z0:=Tryz.sizeOf0
  v0:=Tryz.zeroValue0
  t2:=Tryz.underlying2
  a2:=Tryz.isAgg2
  z2:=Tryz.sizeOf2
  v2:=Tryz.zeroValue2
  t3:=Tryz.underlying3
  a3:=Tryz.isAgg3
  z3:=Tryz.sizeOf3
  v3:=Tryz.zeroValue3
  t4:=Tryz.underlying4
  a4:=Tryz.isAgg4
  z4:=Tryz.sizeOf4
  v4:=Tryz.zeroValue4
  t5:=Tryz.underlying5
  a5:=Tryz.isAgg5
  z5:=Tryz.sizeOf5
  v5:=Tryz.zeroValue5
  t9:=Tryz.underlying9
  a9:=Tryz.isAgg9
  z9:=Tryz.sizeOf9
  v9:=Tryz.zeroValue9
  t20:=Tryz.underlying20
  a20:=Tryz.isAgg20
  z20:=Tryz.sizeOf20
  v20:=Tryz.zeroValue20
  t21:=Tryz.underlying21
  a21:=Tryz.isAgg21
  z21:=Tryz.sizeOf21
  v21:=Tryz.zeroValue21
  t37:=Tryz.underlying38
  a37:=Tryz.isAgg38
  z37:=Tryz.sizeOf38
  v37:=Tryz.zeroValue38
  t46:=Tryz.underlying114
  a46:=Tryz.isAgg114
  z46:=Tryz.sizeOf114
  v46:=Tryz.zeroValue114
  t51:=Tryz.underlying236
  a51:=Tryz.isAgg236
  z51:=Tryz.sizeOf236
  v51:=Tryz.zeroValue236
  t53:=Tryz.underlying239
  a53:=Tryz.isAgg239
  z53:=Tryz.sizeOf239
  v53:=Tryz.zeroValue239
  t75:=Tryz.underlying168
  a75:=Tryz.isAgg168
  z75:=Tryz.sizeOf168
  v75:=Tryz.zeroValue168
  t85:=Tryz.underlying229
  a85:=Tryz.isAgg229
  z85:=Tryz.sizeOf229
  v85:=Tryz.zeroValue229
  t127:=Tryz.underlying233
  a127:=Tryz.isAgg233
  z127:=Tryz.sizeOf233
  v127:=Tryz.zeroValue233
  t143:=Tryz.underlying340
  a143:=Tryz.isAgg340
  z143:=Tryz.sizeOf340
  v143:=Tryz.zeroValue340
  t145:=Tryz.underlying342
  a145:=Tryz.isAgg342
  z145:=Tryz.sizeOf342
  v145:=Tryz.zeroValue342
  t167:=Tryz.underlying300
  a167:=Tryz.isAgg300
  z167:=Tryz.sizeOf300
  v167:=Tryz.zeroValue300
  t168:=Tryz.underlying303
  a168:=Tryz.isAgg303
  z168:=Tryz.sizeOf303
  v168:=Tryz.zeroValue303
  t171:=Tryz.underlying324
  a171:=Tryz.isAgg324
  z171:=Tryz.sizeOf324
  v171:=Tryz.zeroValue324
  t173:=Tryz.underlying327
  a173:=Tryz.isAgg327
  z173:=Tryz.sizeOf327
  v173:=Tryz.zeroValue327
  t175:=Tryz.underlying301
  a175:=Tryz.isAgg301
  z175:=Tryz.sizeOf301
  v175:=Tryz.zeroValue301
  t210:=Tryz.underlying331
  a210:=Tryz.isAgg331
  z210:=Tryz.sizeOf331
  v210:=Tryz.zeroValue331
  t212:=Tryz.underlying337
  a212:=Tryz.isAgg337
  z212:=Tryz.sizeOf337
  v212:=Tryz.zeroValue337
  t213:=Tryz.underlying338
  a213:=Tryz.isAgg338
  z213:=Tryz.sizeOf338
  t232:=Tryz.underlying344
  a232:=Tryz.isAgg344
  z232:=Tryz.sizeOf344
  v232:=Tryz.zeroValue344
  t233:=Tryz.underlying345
  a233:=Tryz.isAgg345
  z233:=Tryz.sizeOf345
  v233:=Tryz.zeroValue345
  g15:=by kernel_rfl
  g16:=by kernel_rfl
  g17:=by kernel_rfl
  g18:=by kernel_rfl
  g19:=by kernel_rfl
  t80:=Tryz.underlying67
  a80:=Tryz.isAgg67
  z80:=Tryz.sizeOf67
  v80:=Tryz.zeroValue67
  i0:=by kernel_rfl
  i2:=by kernel_rfl
  i3:=by kernel_rfl
  i4:=by kernel_rfl
  i5:=by kernel_rfl
  i9:=by kernel_rfl
  i20:=by kernel_rfl
  i21:=by kernel_rfl
  i37:=by kernel_rfl
  i46:=by kernel_rfl
  i51:=by kernel_rfl
  i53:=by kernel_rfl
  i75:=by kernel_rfl
  i80:=by kernel_rfl
  i85:=by kernel_rfl
  i127:=by kernel_rfl
  i143:=by kernel_rfl
  i145:=by kernel_rfl
  i167:=by kernel_rfl
  i168:=by kernel_rfl
  i171:=by kernel_rfl
  i173:=by kernel_rfl
  i175:=by kernel_rfl
  i210:=by kernel_rfl
  i212:=by kernel_rfl
  i232:=by kernel_rfl
  i233:=by kernel_rfl
  m15:=by kernel_rfl
  m16:=by kernel_rfl
  m17:=by kernel_rfl
  m18:=by kernel_rfl
  m19:=by kernel_rfl
  c0:=by kernel_rfl
  c2:=by kernel_rfl
  c3:=by kernel_rfl
  c4:=by kernel_rfl
  c5:=by kernel_rfl
  c9:=by kernel_rfl
  c20:=by kernel_rfl
  c21:=by kernel_rfl
  c37:=by kernel_rfl
  c46:=by kernel_rfl
  c51:=by kernel_rfl
  c53:=by kernel_rfl
  c75:=by kernel_rfl
  c80:=by kernel_rfl
  c85:=by kernel_rfl
  c127:=by kernel_rfl
  c143:=by kernel_rfl
  c145:=by kernel_rfl
  c167:=by kernel_rfl
  c168:=by kernel_rfl
  c171:=by kernel_rfl
  c173:=by kernel_rfl
  c175:=by kernel_rfl
  c210:=by kernel_rfl
  c212:=by kernel_rfl
  c213:=by kernel_rfl
  c232:=by kernel_rfl
  c233:=by kernel_rfl }
open Go.RowKit in
theorem Tryz.strconv_ParseInt_10_at64_ok (s : ByteArray) (hmax : s.size ≤ 9223372036854775806) (v : Int) (h : Lib.parseIntB 64 s.data.toList = .ok v) (w : World) :
    Calls Tryz.prog 138 #[.string s, .int .i64 10, .int .i64 64] w fun e w' => e = .returned (.tuple #[.int .i64 v, .nilIface]) ∧ (w' = w ∨ ∃ t, w' = Lib.bytesWorld w 5 t):=Any.strconv_ParseInt_10_at64_ok Tryz.laysC174 s hmax v h w
open Go.RowKit in
theorem Tryz.strconv_ParseInt_10_at64_range (s : ByteArray) (hlim : s.size ≤ 281474976710656) (h : Lib.parseIntB 64 s.data.toList = .range) (ev : Value) (w : World) (hv : w.cell? ⟨8, 0, none⟩ = some ev) (hev : ev = .nilIface ∨ ∃ te pe, ev = .iface te pe) :
    Calls Tryz.prog 138 #[.string s, .int .i64 10, .int .i64 64] w fun e w' => ∃ N, e = .returned (.tuple #[.int .i64 (Lib.intSat 64 s.data.toList), .iface 303 (.pointer (some ⟨N, 0, none⟩))]) ∧ w.heap.size ≤ N ∧ w'.heap[N]? = some (.cells #[.string ⟨#[80, 97, 114, 115, 101, 73, 110, 116]⟩, .string s, ev] 331 (0, 0)) ∧ Below w.heap.size w w':=Any.strconv_ParseInt_10_at64_range Tryz.laysC174 s hlim h ev w hv hev
def Tryz.lays144_ren : Go.Shelf.Ren:=⟨fun | 144 => 249 | 143 => 139 | 219 => 200 | 217 => 229 | 225 => 239 | 224 => 240 | 267 => 241 | 266 => 255 | 314 => 265 | n => n, fun | 9 => 9 | 4 => 4 | 3 => 3 | 5 => 5 | 46 => 114 | 146 => 237 | 51 => 236 | n => n, fun | 1 => 2 | n => n⟩
theorem Tryz.lays144 : Go.Proofs.Lays.n144 Tryz.prog Tryz.lays144_ren:={
  mixed:=by kernel_rfl
  f143:=Tryz.func139.trans (congrArg some (by kernel_rfl))
  f144:=Tryz.func249.trans (congrArg some (by kernel_rfl))
  f217:=Tryz.func229.trans (congrArg some (by kernel_rfl))
  f219:=Tryz.func200.trans (congrArg some (by kernel_rfl))
  f224:=Tryz.func240.trans (congrArg some (by kernel_rfl))
  f225:=Tryz.func239.trans (congrArg some (by kernel_rfl))
  f266:=Tryz.func255.trans (congrArg some (by kernel_rfl))
  f267:=Tryz.func241.trans (congrArg some (by kernel_rfl))
  f314:=Tryz.func265.trans (congrArg some (by kernel_rfl))
  t3:=Tryz.underlying3
  a3:=Tryz.isAgg3
  z3:=Tryz.sizeOf3
  v3:=Tryz.zeroValue3
  t4:=Tryz.underlying4
  a4:=Tryz.isAgg4
  z4:=Tryz.sizeOf4
  v4:=Tryz.zeroValue4
  t5:=Tryz.underlying5
  a5:=Tryz.isAgg5
  z5:=Tryz.sizeOf5
  v5:=Tryz.zeroValue5
  t9:=Tryz.underlying9
  a9:=Tryz.isAgg9
  z9:=Tryz.sizeOf9
  v9:=Tryz.zeroValue9
  t46:=Tryz.underlying114
  a46:=Tryz.isAgg114
  z46:=Tryz.sizeOf114
  v46:=Tryz.zeroValue114
  t51:=Tryz.underlying236
  a51:=Tryz.isAgg236
  z51:=Tryz.sizeOf236
  v51:=Tryz.zeroValue236
  t146:=Tryz.underlying237
  a146:=Tryz.isAgg237
  z146:=Tryz.sizeOf237
  v146:=Tryz.zeroValue237
  g1:=by kernel_rfl }
open Go.RowKit Go.Lib in
theorem Tryz.strings_Contains_one (s : ByteArray) (c : UInt8) (w : World) :
    Calls Tryz.prog 249 #[.string s, .string ⟨#[c]⟩] w fun e w' => e = .returned (.bool (decide (0 ≤ Lib.indexByte s.data.toList c))) ∧ w' = w:=Any.strings_Contains_one Tryz.lays144 s c w
def Tryz.lays145_ren : Go.Shelf.Ren:=⟨fun | 145 => 93 | 220 => 144 | 219 => 200 | 217 => 229 | 225 => 239 | 224 => 240 | 267 => 241 | 266 => 255 | 314 => 265 | n => n, fun | 9 => 9 | 4 => 4 | 59 => 171 | 3 => 3 | 5 => 5 | 46 => 114 | 146 => 237 | 51 => 236 | n => n, fun | 1 => 2 | n => n⟩
theorem Tryz.lays145 : Go.Proofs.Lays.n145 Tryz.prog Tryz.lays145_ren:={
  mixed:=by kernel_rfl
  f145:=Tryz.func93.trans (congrArg some (by kernel_rfl))
  f217:=Tryz.func229.trans (congrArg some (by kernel_rfl))
  f219:=Tryz.func200.trans (congrArg some (by kernel_rfl))
  f220:=Tryz.func144.trans (congrArg some (by kernel_rfl))
  f224:=Tryz.func240.trans (congrArg some (by kernel_rfl))
  f225:=Tryz.func239.trans (congrArg some (by kernel_rfl))
  f266:=Tryz.func255.trans (congrArg some (by kernel_rfl))
  f267:=Tryz.func241.trans (congrArg some (by kernel_rfl))
  f314:=Tryz.func265.trans (congrArg some (by kernel_rfl))
  t3:=Tryz.underlying3
  a3:=Tryz.isAgg3
  z3:=Tryz.sizeOf3
  v3:=Tryz.zeroValue3
  t4:=Tryz.underlying4
  a4:=Tryz.isAgg4
  z4:=Tryz.sizeOf4
  v4:=Tryz.zeroValue4
  t5:=Tryz.underlying5
  a5:=Tryz.isAgg5
  z5:=Tryz.sizeOf5
  v5:=Tryz.zeroValue5
  t9:=Tryz.underlying9
  a9:=Tryz.isAgg9
  z9:=Tryz.sizeOf9
  v9:=Tryz.zeroValue9
  t46:=Tryz.underlying114
  a46:=Tryz.isAgg114
  z46:=Tryz.sizeOf114
  v46:=Tryz.zeroValue114
  t51:=Tryz.underlying236
  a51:=Tryz.isAgg236
  z51:=Tryz.sizeOf236
  v51:=Tryz.zeroValue236
  t59:=Tryz.underlying171
  a59:=Tryz.isAgg171
  z59:=Tryz.sizeOf171
  v59:=Tryz.zeroValue171
  t146:=Tryz.underlying237
  a146:=Tryz.isAgg237
  z146:=Tryz.sizeOf237
  v146:=Tryz.zeroValue237
  g1:=by kernel_rfl }
open Go.RowKit Go.Lib in
theorem Tryz.strings_Cut (s sep : ByteArray) (m : Int) (w : World) (hs : s.size < 4294967281) (hm : w.cell? ⟨2, 0, none⟩ = some (.int .i64 m)) :
    Calls Tryz.prog 93 #[.string s, .string sep] w fun e w' => e = .returned (.tuple #[.string ⟨(Lib.cut s.data.toList sep.data.toList).1.toArray⟩, .string ⟨(Lib.cut s.data.toList sep.data.toList).2.1.toArray⟩, .bool (Lib.cut s.data.toList sep.data.toList).2.2]) ∧ ∃ n, w' = w.drewN n:=Any.strings_Cut Tryz.lays145 s sep m w hs hm
def Tryz.lays138_ren : Go.Shelf.Ren:=⟨fun | 138 => 111 | 195 => 163 | 218 => 164 | 143 => 139 | 219 => 200 | 217 => 229 | 225 => 239 | 224 => 240 | 267 => 241 | 266 => 255 | 314 => 265 | n => n, fun | 9 => 9 | 3 => 3 | 4 => 4 | 5 => 5 | 0 => 0 | 46 => 114 | 146 => 237 | 51 => 236 | n => n, fun | 1 => 2 | n => n⟩
theorem Tryz.lays138 : Go.Proofs.Lays.n138 Tryz.prog Tryz.lays138_ren:={
  mixed:=by kernel_rfl
  f138:=Tryz.func111.trans (congrArg some (by kernel_rfl))
  f143:=Tryz.func139.trans (congrArg some (by kernel_rfl))
  f195:=Tryz.func163.trans (congrArg some (by kernel_rfl))
  f217:=Tryz.func229.trans (congrArg some (by kernel_rfl))
  f218:=Tryz.func164.trans (congrArg some (by kernel_rfl))
  f219:=Tryz.func200.trans (congrArg some (by kernel_rfl))
  f224:=Tryz.func240.trans (congrArg some (by kernel_rfl))
  f225:=Tryz.func239.trans (congrArg some (by kernel_rfl))
  f266:=Tryz.func255.trans (congrArg some (by kernel_rfl))
  f267:=Tryz.func241.trans (congrArg some (by kernel_rfl))
  f314:=Tryz.func265.trans (congrArg some (by kernel_rfl))
  t0:=Tryz.underlying0
  a0:=Tryz.isAgg0
  z0:=Tryz.sizeOf0
  v0:=Tryz.zeroValue0
  t3:=Tryz.underlying3
  a3:=Tryz.isAgg3
  z3:=Tryz.sizeOf3
  v3:=Tryz.zeroValue3
  t4:=Tryz.underlying4
  a4:=Tryz.isAgg4
  z4:=Tryz.sizeOf4
  v4:=Tryz.zeroValue4
  t5:=Tryz.underlying5
  a5:=Tryz.isAgg5
  z5:=Tryz.sizeOf5
  v5:=Tryz.zeroValue5
  t9:=Tryz.underlying9
  a9:=Tryz.isAgg9
  z9:=Tryz.sizeOf9
  v9:=Tryz.zeroValue9
  t46:=Tryz.underlying114
  a46:=Tryz.isAgg114
  z46:=Tryz.sizeOf114
  v46:=Tryz.zeroValue114
  t51:=Tryz.underlying236
  a51:=Tryz.isAgg236
  z51:=Tryz.sizeOf236
  v51:=Tryz.zeroValue236
  t146:=Tryz.underlying237
  a146:=Tryz.isAgg237
  z146:=Tryz.sizeOf237
  v146:=Tryz.zeroValue237
  g1:=by kernel_rfl }
open Go.RowKit Go.Lib in
theorem Tryz.strings_Count_one (s : ByteArray) (c : UInt8) (w : World) :
    Calls Tryz.prog 111 #[.string s, .string ⟨#[c]⟩] w fun e w' => e = .returned (.int .i64 (Lib.countByte s.data.toList c)) ∧ w' = w:=Any.strings_Count_one Tryz.lays138 s c w
def Tryz.lays99_ren : Go.Shelf.Ren:=⟨fun | 99 => 97 | 206 => 150 | n => n, fun | 9 => 9 | 4 => 4 | 3 => 3 | n => n, fun | n => n⟩
theorem Tryz.lays99 : Go.Proofs.Lays.n99 Tryz.prog Tryz.lays99_ren:={
  mixed:=by kernel_rfl
  f99:=Tryz.func97.trans (congrArg some (by kernel_rfl))
  f206:=Tryz.func150.trans (congrArg some (by kernel_rfl))
  t3:=Tryz.underlying3
  a3:=Tryz.isAgg3
  z3:=Tryz.sizeOf3
  v3:=Tryz.zeroValue3
  t4:=Tryz.underlying4
  a4:=Tryz.isAgg4
  z4:=Tryz.sizeOf4
  v4:=Tryz.zeroValue4
  t9:=Tryz.underlying9
  a9:=Tryz.isAgg9
  z9:=Tryz.sizeOf9
  v9:=Tryz.zeroValue9 }
open Go.RowKit Go.Lib in
theorem Tryz.strings_HasPrefix (s p : ByteArray) (w : World) :
    Calls Tryz.prog 97 #[.string s, .string p] w fun e w' => e = .returned (.bool (Lib.hasPrefix s.data.toList p.data.toList)) ∧ w' = w:=Any.strings_HasPrefix Tryz.lays99 s p w
def Tryz.lays100_ren : Go.Shelf.Ren:=⟨fun | 100 => 95 | 207 => 147 | n => n, fun | 9 => 9 | 4 => 4 | 3 => 3 | n => n, fun | n => n⟩
theorem Tryz.lays100 : Go.Proofs.Lays.n100 Tryz.prog Tryz.lays100_ren:={
  mixed:=by kernel_rfl
  f100:=Tryz.func95.trans (congrArg some (by kernel_rfl))
  f207:=Tryz.func147.trans (congrArg some (by kernel_rfl))
  t3:=Tryz.underlying3
  a3:=Tryz.isAgg3
  z3:=Tryz.sizeOf3
  v3:=Tryz.zeroValue3
  t4:=Tryz.underlying4
  a4:=Tryz.isAgg4
  z4:=Tryz.sizeOf4
  v4:=Tryz.zeroValue4
  t9:=Tryz.underlying9
  a9:=Tryz.isAgg9
  z9:=Tryz.sizeOf9
  v9:=Tryz.zeroValue9 }
open Go.RowKit Go.Lib in
theorem Tryz.strings_HasSuffix (s p : ByteArray) (w : World) (hs : s.size ≤ 9223372036854775807) :
    Calls Tryz.prog 95 #[.string s, .string p] w fun e w' => e = .returned (.bool (Lib.hasSuffix s.data.toList p.data.toList)) ∧ w' = w:=Any.strings_HasSuffix Tryz.lays100 s p w hs
def Tryz.lays101_ren : Go.Shelf.Ren:=⟨fun | 101 => 92 | 208 => 143 | 206 => 150 | n => n, fun | 9 => 9 | 4 => 4 | 3 => 3 | n => n, fun | n => n⟩
theorem Tryz.lays101 : Go.Proofs.Lays.n101 Tryz.prog Tryz.lays101_ren:={
  mixed:=by kernel_rfl
  f101:=Tryz.func92.trans (congrArg some (by kernel_rfl))
  f206:=Tryz.func150.trans (congrArg some (by kernel_rfl))
  f208:=Tryz.func143.trans (congrArg some (by kernel_rfl))
  t3:=Tryz.underlying3
  a3:=Tryz.isAgg3
  z3:=Tryz.sizeOf3
  v3:=Tryz.zeroValue3
  t4:=Tryz.underlying4
  a4:=Tryz.isAgg4
  z4:=Tryz.sizeOf4
  v4:=Tryz.zeroValue4
  t9:=Tryz.underlying9
  a9:=Tryz.isAgg9
  z9:=Tryz.sizeOf9
  v9:=Tryz.zeroValue9 }
open Go.RowKit Go.Lib in
theorem Tryz.strings_TrimPrefix (s p : ByteArray) (w : World) :
    Calls Tryz.prog 92 #[.string s, .string p] w fun e w' => e = .returned (.string ⟨(Lib.trimPrefix s.data.toList p.data.toList).toArray⟩) ∧ w' = w:=Any.strings_TrimPrefix Tryz.lays101 s p w
def Tryz.lays102_ren : Go.Shelf.Ren:=⟨fun | 102 => 102 | 209 => 154 | 207 => 147 | n => n, fun | 9 => 9 | 4 => 4 | 3 => 3 | n => n, fun | n => n⟩
theorem Tryz.lays102 : Go.Proofs.Lays.n102 Tryz.prog Tryz.lays102_ren:={
  mixed:=by kernel_rfl
  f102:=Tryz.func102.trans (congrArg some (by kernel_rfl))
  f207:=Tryz.func147.trans (congrArg some (by kernel_rfl))
  f209:=Tryz.func154.trans (congrArg some (by kernel_rfl))
  t3:=Tryz.underlying3
  a3:=Tryz.isAgg3
  z3:=Tryz.sizeOf3
  v3:=Tryz.zeroValue3
  t4:=Tryz.underlying4
  a4:=Tryz.isAgg4
  z4:=Tryz.sizeOf4
  v4:=Tryz.zeroValue4
  t9:=Tryz.underlying9
  a9:=Tryz.isAgg9
  z9:=Tryz.sizeOf9
  v9:=Tryz.zeroValue9 }
open Go.RowKit Go.Lib in
theorem Tryz.strings_TrimSuffix (s p : ByteArray) (w : World) (hs : s.size ≤ 9223372036854775807) :
    Calls Tryz.prog 102 #[.string s, .string p] w fun e w' => e = .returned (.string ⟨(Lib.trimSuffix s.data.toList p.data.toList).toArray⟩) ∧ w' = w:=Any.strings_TrimSuffix Tryz.lays102 s p w hs
def Tryz.lays157_ren : Go.Shelf.Ren:=⟨fun | 157 => 99 | 229 => 151 | 199 => 152 | 261 => 203 | 311 => 242 | 312 => 243 | n => n, fun | 9 => 9 | 31 => 51 | 3 => 3 | 5 => 5 | 4 => 4 | 119 => 242 | 0 => 0 | 40 => 244 | 152 => 280 | 21 => 21 | 154 => 282 | 51 => 236 | 141 => 284 | 196 => 313 | 193 => 310 | 198 => 316 | 49 => 314 | 194 => 311 | 201 => 319 | 226 => 334 | 46 => 114 | 227 => 335 | n => n, fun | 0 => 0 | 6 => 1 | n => n⟩
theorem Tryz.lays157 : Go.Proofs.Lays.n157 Tryz.prog Tryz.lays157_ren:={
  mixed:=by kernel_rfl
  f157:=Tryz.func99.trans (congrArg some (by kernel_rfl))
  f199:=Tryz.func152.trans (congrArg some (by kernel_rfl))
  f229:=Tryz.func151.trans (congrArg some (by kernel_rfl))
  f261:=Tryz.func203.trans (congrArg some (by kernel_rfl))
  f311:=Tryz.func242.trans (congrArg some (by kernel_rfl))
  f312:=Tryz.func243.trans (congrArg some (by kernel_rfl))
  t0:=Tryz.underlying0
  a0:=Tryz.isAgg0
  z0:=Tryz.sizeOf0
  v0:=Tryz.zeroValue0
  t3:=Tryz.underlying3
  a3:=Tryz.isAgg3
  z3:=Tryz.sizeOf3
  v3:=Tryz.zeroValue3
  t4:=Tryz.underlying4
  a4:=Tryz.isAgg4
  z4:=Tryz.sizeOf4
  v4:=Tryz.zeroValue4
  t5:=Tryz.underlying5
  a5:=Tryz.isAgg5
  z5:=Tryz.sizeOf5
  v5:=Tryz.zeroValue5
  t9:=Tryz.underlying9
  a9:=Tryz.isAgg9
  z9:=Tryz.sizeOf9
  v9:=Tryz.zeroValue9
  t21:=Tryz.underlying21
  a21:=Tryz.isAgg21
  z21:=Tryz.sizeOf21
  v21:=Tryz.zeroValue21
  t31:=Tryz.underlying51
  a31:=Tryz.isAgg51
  z31:=Tryz.sizeOf51
  v31:=Tryz.zeroValue51
  t40:=Tryz.underlying244
  a40:=Tryz.isAgg244
  z40:=Tryz.sizeOf244
  v40:=Tryz.zeroValue244
  t46:=Tryz.underlying114
  a46:=Tryz.isAgg114
  z46:=Tryz.sizeOf114
  v46:=Tryz.zeroValue114
  t49:=Tryz.underlying314
  a49:=Tryz.isAgg314
  z49:=Tryz.sizeOf314
  v49:=Tryz.zeroValue314
  t51:=Tryz.underlying236
  a51:=Tryz.isAgg236
  z51:=Tryz.sizeOf236
  v51:=Tryz.zeroValue236
  t119:=Tryz.underlying242
  a119:=Tryz.isAgg242
  z119:=Tryz.sizeOf242
  t141:=Tryz.underlying284
  a141:=Tryz.isAgg284
  z141:=Tryz.sizeOf284
  v141:=Tryz.zeroValue284
  t152:=Tryz.underlying280
  a152:=Tryz.isAgg280
  z152:=Tryz.sizeOf280
  v152:=Tryz.zeroValue280
  t154:=Tryz.underlying282
  a154:=Tryz.isAgg282
  z154:=Tryz.sizeOf282
  v154:=Tryz.zeroValue282
  t193:=Tryz.underlying310
  a193:=Tryz.isAgg310
  z193:=Tryz.sizeOf310
  v193:=Tryz.zeroValue310
  t194:=Tryz.underlying311
  a194:=Tryz.isAgg311
  z194:=Tryz.sizeOf311
  v194:=Tryz.zeroValue311
  t196:=Tryz.underlying313
  a196:=Tryz.isAgg313
  z196:=Tryz.sizeOf313
  v196:=Tryz.zeroValue313
  t198:=Tryz.underlying316
  a198:=Tryz.isAgg316
  z198:=Tryz.sizeOf316
  v198:=Tryz.zeroValue316
  t201:=Tryz.underlying319
  a201:=Tryz.isAgg319
  z201:=Tryz.sizeOf319
  v201:=Tryz.zeroValue319
  t226:=Tryz.underlying334
  a226:=Tryz.isAgg334
  z226:=Tryz.sizeOf334
  v226:=Tryz.zeroValue334
  t227:=Tryz.underlying335
  a227:=Tryz.isAgg335
  z227:=Tryz.sizeOf335
  v227:=Tryz.zeroValue335
  g0:=by kernel_rfl
  g6:=by kernel_rfl }
open Go.RowKit Go.Lib in
theorem Tryz.strings_Fields (s : ByteArray) (w : World) (hs : s.size < 4294967281) (hascii : ∀ (j : Nat) b, s.data.toList[j]? = some b → b.toNat < 128) (htab : Lib.TabIs Tryz.prog w "strings.asciiSpace" .u8 Lib.asciiSpaceTab) :
    Calls Tryz.prog 99 #[.string s] w fun e w' =>
      e = .returned (.slice (some ⟨w.heap.size, 0, none⟩) (Lib.fields s.data.toList).length (Lib.fields s.data.toList).length) ∧ w' = w.alloc (.cells ((Lib.fields s.data.toList).map fun l => Value.string ⟨l.toArray⟩).toArray 9):=Any.strings_Fields Tryz.lays157 (by kernel_rfl) (by kernel_rfl) s w hs hascii htab
def Tryz.lays151_ren : Go.Shelf.Ren:=⟨fun | 151 => 174 | 152 => 224 | 137 => 189 | 119 => 254 | 224 => 240 | 225 => 239 | 217 => 229 | 266 => 255 | n => n, fun | 9 => 9 | 21 => 21 | 4 => 4 | 3 => 3 | 5 => 5 | 0 => 0 | 46 => 114 | n => n, fun | n => n⟩
theorem Tryz.lays151 : Go.Proofs.Lays.n151 Tryz.prog Tryz.lays151_ren:={
  mixed:=by kernel_rfl
  f119:=Tryz.func254.trans (congrArg some (by kernel_rfl))
  f137:=Tryz.func189.trans (congrArg some (by kernel_rfl))
  f151:=Tryz.func174.trans (congrArg some (by kernel_rfl))
  f152:=Tryz.func224.trans (congrArg some (by kernel_rfl))
  f217:=Tryz.func229.trans (congrArg some (by kernel_rfl))
  f224:=Tryz.func240.trans (congrArg some (by kernel_rfl))
  f225:=Tryz.func239.trans (congrArg some (by kernel_rfl))
  f266:=Tryz.func255.trans (congrArg some (by kernel_rfl))
  t0:=Tryz.underlying0
  a0:=Tryz.isAgg0
  z0:=Tryz.sizeOf0
  v0:=Tryz.zeroValue0
  t3:=Tryz.underlying3
  a3:=Tryz.isAgg3
  z3:=Tryz.sizeOf3
  v3:=Tryz.zeroValue3
  t4:=Tryz.underlying4
  a4:=Tryz.isAgg4
  z4:=Tryz.sizeOf4
  v4:=Tryz.zeroValue4
  t5:=Tryz.underlying5
  a5:=Tryz.isAgg5
  z5:=Tryz.sizeOf5
  v5:=Tryz.zeroValue5
  t9:=Tryz.underlying9
  a9:=Tryz.isAgg9
  z9:=Tryz.sizeOf9
  v9:=Tryz.zeroValue9
  t21:=Tryz.underlying21
  a21:=Tryz.isAgg21
  z21:=Tryz.sizeOf21
  v21:=Tryz.zeroValue21
  t46:=Tryz.underlying114
  a46:=Tryz.isAgg114
  z46:=Tryz.sizeOf114
  v46:=Tryz.zeroValue114 }
open Go.RowKit Go.Lib in
theorem Tryz.strings_ContainsRune_ascii (s : ByteArray) (r : Int) (w : World) (h0 : 0 ≤ r) (h1 : r < 128) :
    Calls Tryz.prog 174 #[.string s, .int .i32 r] w fun e w' => e = .returned (.bool (decide (0 ≤ Lib.indexByte s.data.toList r.toNat.toUInt8))) ∧ w' = w:=Any.strings_ContainsRune_ascii Tryz.lays151 s r w h0 h1
def Tryz.lays150_ren : Go.Shelf.Ren:=⟨fun | 150 => 168 | 153 => 221 | 152 => 224 | 226 => 253 | 227 => 121 | 228 => 178 | 137 => 189 | 119 => 254 | 224 => 240 | 225 => 239 | 217 => 229 | 266 => 255 | n => n, fun | 9 => 9 | 4 => 4 | 3 => 3 | 5 => 5 | 21 => 21 | 117 => 209 | 116 => 208 | 0 => 0 | 46 => 114 | 124 => 212 | n => n, fun | n => n⟩
theorem Tryz.lays150 : Go.Proofs.Lays.n150 Tryz.prog Tryz.lays150_ren:={
  mixed:=by kernel_rfl
  f119:=Tryz.func254.trans (congrArg some (by kernel_rfl))
  f137:=Tryz.func189.trans (congrArg some (by kernel_rfl))
  f150:=Tryz.func168.trans (congrArg some (by kernel_rfl))
  f152:=Tryz.func224.trans (congrArg some (by kernel_rfl))
  f153:=Tryz.func221.trans (congrArg some (by kernel_rfl))
  f217:=Tryz.func229.trans (congrArg some (by kernel_rfl))
  f224:=Tryz.func240.trans (congrArg some (by kernel_rfl))
  f225:=Tryz.func239.trans (congrArg some (by kernel_rfl))
  f226:=Tryz.func253.trans (congrArg some (by kernel_rfl))
  f227:=Tryz.func121.trans (congrArg some (by kernel_rfl))
  f228:=Tryz.func178.trans (congrArg some (by kernel_rfl))
  f266:=Tryz.func255.trans (congrArg some (by kernel_rfl))
  t0:=Tryz.underlying0
  a0:=Tryz.isAgg0
  z0:=Tryz.sizeOf0
  v0:=Tryz.zeroValue0
  t3:=Tryz.underlying3
  a3:=Tryz.isAgg3
  z3:=Tryz.sizeOf3
  v3:=Tryz.zeroValue3
  t4:=Tryz.underlying4
  a4:=Tryz.isAgg4
  z4:=Tryz.sizeOf4
  v4:=Tryz.zeroValue4
  t5:=Tryz.underlying5
  a5:=Tryz.isAgg5
  z5:=Tryz.sizeOf5
  v5:=Tryz.zeroValue5
  t9:=Tryz.underlying9
  a9:=Tryz.isAgg9
  z9:=Tryz.sizeOf9
  v9:=Tryz.zeroValue9
  t21:=Tryz.underlying21
  a21:=Tryz.isAgg21
  z21:=Tryz.sizeOf21
  v21:=Tryz.zeroValue21
  t46:=Tryz.underlying114
  a46:=Tryz.isAgg114
  z46:=Tryz.sizeOf114
  v46:=Tryz.zeroValue114
  t116:=Tryz.underlying208
  a116:=Tryz.isAgg208
  z116:=Tryz.sizeOf208
  t117:=Tryz.underlying209
  a117:=Tryz.isAgg209
  z117:=Tryz.sizeOf209
  v117:=Tryz.zeroValue209
  t124:=Tryz.underlying212
  a124:=Tryz.isAgg212
  z124:=Tryz.sizeOf212
  v124:=Tryz.zeroValue212 }
open Go.RowKit Go.Lib in
theorem Tryz.strings_ContainsAny_laid (s chars : ByteArray) (w : World) (hs : s.size < 4294967281) (hcs : chars.size < 4294967281) (has : ∀ (j : Nat) b, s.data.toList[j]? = some b → b.toNat < 128) (hac : ∀ (j : Nat) b, chars.data.toList[j]? = some b → b.toNat < 128) :
    Calls Tryz.prog 168 #[.string s, .string chars] w fun e w' => e = .returned (.bool (Lib.containsAny s.data.toList chars.data.toList)) ∧ Below w.heap.size w w':=Any.strings_ContainsAny_laid Tryz.lays150 (by kernel_rfl) s chars w hs hcs has hac
def Tryz.lays212_ren : Go.Shelf.Ren:=⟨fun | 212 => 96 | 263 => 148 | 264 => 149 | n => n, fun | 46 => 114 | 51 => 236 | 146 => 237 | 53 => 239 | 148 => 240 | n => n, fun | n => n⟩
theorem Tryz.lays212 : Go.Proofs.Lays.n212 Tryz.prog Tryz.lays212_ren:={
  mixed:=by kernel_rfl
  f212:=Tryz.func96.trans (congrArg some (by kernel_rfl))
  f263:=Tryz.func148.trans (congrArg some (by kernel_rfl))
  f264:=Tryz.func149.trans (congrArg some (by kernel_rfl))
  t46:=Tryz.underlying114
  a46:=Tryz.isAgg114
  z46:=Tryz.sizeOf114
  v46:=Tryz.zeroValue114
  t51:=Tryz.underlying236
  a51:=Tryz.isAgg236
  z51:=Tryz.sizeOf236
  v51:=Tryz.zeroValue236
  t53:=Tryz.underlying239
  a53:=Tryz.isAgg239
  z53:=Tryz.sizeOf239
  v53:=Tryz.zeroValue239
  t146:=Tryz.underlying237
  a146:=Tryz.isAgg237
  z146:=Tryz.sizeOf237
  v146:=Tryz.zeroValue237
  t148:=Tryz.underlying240
  a148:=Tryz.isAgg240
  z148:=Tryz.sizeOf240
  v148:=Tryz.zeroValue240 }
open Go.RowKit Go.Lib in
theorem Tryz.bits_Mul (x y : Nat) (hx : x < 18446744073709551616) (hy : y < 18446744073709551616) (w : World) :
    Calls Tryz.prog 96 #[.int .u64 x, .int .u64 y] w fun e w' => e = .returned (.tuple #[.int .u64 ((x * y / 18446744073709551616 : Nat) : Int), .int .u64 ((x * y % 18446744073709551616 : Nat) : Int)]) ∧ w' = w:=Any.bits_Mul Tryz.lays212 x y hx hy w
def Tryz.lays105_ren : Go.Shelf.Ren:=⟨fun | 105 => 62 | 212 => 96 | 99 => 97 | 165 => 89 | 166 => 90 | 170 => 98 | 169 => 91 | 263 => 148 | 264 => 149 | 206 => 150 | 240 => 141 | 241 => 142 | 276 => 202 | 277 => 190 | n => n, fun | 9 => 9 | 3 => 3 | 4 => 4 | 20 => 20 | 0 => 0 | 46 => 114 | 109 => 174 | 5 => 5 | 72 => 165 | 76 => 169 | 51 => 236 | 146 => 237 | 53 => 239 | 148 => 240 | 70 => 163 | 37 => 38 | 75 => 168 | 127 => 233 | 164 => 278 | 80 => 67 | n => n, fun | n => n⟩
theorem Tryz.lays105 : Go.Proofs.Lays.n105 Tryz.prog Tryz.lays105_ren:={
  mixed:=by kernel_rfl
  f99:=Tryz.func97.trans (congrArg some (by kernel_rfl))
  f105:=Tryz.func62.trans (congrArg some (by kernel_rfl))
  f165:=Tryz.func89.trans (congrArg some (by kernel_rfl))
  f166:=Tryz.func90.trans (congrArg some (by kernel_rfl))
  f169:=Tryz.func91.trans (congrArg some (by kernel_rfl))
  f170:=Tryz.func98.trans (congrArg some (by kernel_rfl))
  f206:=Tryz.func150.trans (congrArg some (by kernel_rfl))
  f212:=Tryz.func96.trans (congrArg some (by kernel_rfl))
  f240:=Tryz.func141.trans (congrArg some (by kernel_rfl))
  f241:=Tryz.func142.trans (congrArg some (by kernel_rfl))
  f263:=Tryz.func148.trans (congrArg some (by kernel_rfl))
  f264:=Tryz.func149.trans (congrArg some (by kernel_rfl))
  f276:=Tryz.func202.trans (congrArg some (by kernel_rfl))
  f277:=Tryz.func190.trans (congrArg some (by kernel_rfl))
  t0:=Tryz.underlying0
  a0:=Tryz.isAgg0
  z0:=Tryz.sizeOf0
  v0:=Tryz.zeroValue0
  t3:=Tryz.underlying3
  a3:=Tryz.isAgg3
  z3:=Tryz.sizeOf3
  v3:=Tryz.zeroValue3
  t4:=Tryz.underlying4
  a4:=Tryz.isAgg4
  z4:=Tryz.sizeOf4
  v4:=Tryz.zeroValue4
  t5:=Tryz.underlying5
  a5:=Tryz.isAgg5
  z5:=Tryz.sizeOf5
  v5:=Tryz.zeroValue5
  t9:=Tryz.underlying9
  a9:=Tryz.isAgg9
  z9:=Tryz.sizeOf9
  v9:=Tryz.zeroValue9
  t20:=Tryz.underlying20
  a20:=Tryz.isAgg20
  z20:=Tryz.sizeOf20
  v20:=Tryz.zeroValue20
  t37:=Tryz.underlying38
  a37:=Tryz.isAgg38
  z37:=Tryz.sizeOf38
  v37:=Tryz.zeroValue38
  t46:=Tryz.underlying114
  a46:=Tryz.isAgg114
  z46:=Tryz.sizeOf114
  v46:=Tryz.zeroValue114
  t51:=Tryz.underlying236
  a51:=Tryz.isAgg236
  z51:=Tryz.sizeOf236
  v51:=Tryz.zeroValue236
  t53:=Tryz.underlying239
  a53:=Tryz.isAgg239
  z53:=Tryz.sizeOf239
  v53:=Tryz.zeroValue239
  t70:=Tryz.underlying163
  a70:=Tryz.isAgg163
  z70:=Tryz.sizeOf163
  v70:=Tryz.zeroValue163
  t72:=Tryz.underlying165
  a72:=Tryz.isAgg165
  z72:=Tryz.sizeOf165
  v72:=Tryz.zeroValue165
  t75:=Tryz.underlying168
  a75:=Tryz.isAgg168
  z75:=Tryz.sizeOf168
  v75:=Tryz.zeroValue168
  t76:=Tryz.underlying169
  a76:=Tryz.isAgg169
  z76:=Tryz.sizeOf169
  v76:=Tryz.zeroValue169
  t109:=Tryz.underlying174
  a109:=Tryz.isAgg174
  z109:=Tryz.sizeOf174
  v109:=Tryz.zeroValue174
  t127:=Tryz.underlying233
  a127:=Tryz.isAgg233
  z127:=Tryz.sizeOf233
  v127:=Tryz.zeroValue233
  t146:=Tryz.underlying237
  a146:=Tryz.isAgg237
  z146:=Tryz.sizeOf237
  v146:=Tryz.zeroValue237
  t148:=Tryz.underlying240
  a148:=Tryz.isAgg240
  z148:=Tryz.sizeOf240
  v148:=Tryz.zeroValue240
  t164:=Tryz.underlying278
  a164:=Tryz.isAgg278
  z164:=Tryz.sizeOf278
  v164:=Tryz.zeroValue278 }
theorem Tryz.Builder_Extra_105 : Builder.Extra Tryz.prog Tryz.lays105_ren:={
  sizeBuilder:=by kernel_rfl
  liesBuilder:=by kernel_rfl
  t5:=Tryz.underlying5
  a5:=Tryz.isAgg5
  z5:=Tryz.sizeOf5
  v5:=Tryz.zeroValue5
  infoByte:=by kernel_rfl
  cellsByte:=by kernel_rfl
  sizeByte:=by kernel_rfl
  neB5:=by decide }
open Go.RowKit Go.Lib in
theorem Tryz.strings_Repeat (s : ByteArray) (c : Nat) (w : World) (hc : c ≤ 9223372036854775807) (hlen : s.size * c ≤ 140737488355328) :
    Calls Tryz.prog 62 #[.string s, .int .i64 c] w fun e w' => e = .returned (.string ⟨(Lib.repeatL s.data.toList c).toArray⟩) ∧ Below w.heap.size w w':=Any.strings_Repeat Tryz.lays105 Tryz.Builder_Extra_105 s c w hc hlen
end Go.Proofs
