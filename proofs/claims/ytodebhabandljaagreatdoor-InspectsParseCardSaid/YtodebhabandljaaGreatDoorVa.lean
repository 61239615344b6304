/-
  A part of the proof of the laws.
-/
import Derived.Orders
import Derived.Below
import Derived.Laws.Strings
import Derived.Laws.Strings2
import Derived.Laws.StructEq
import Derived.Laws.Small
import Derived.Laws.Entries
import Derived.Laws.Build
import Derived.WalkKit
import Derived.Shelf.Abstract
import Derived.Laws.CopyRow
namespace Go
abbrev kV:=@Nat.eq_of_beq_eq_true
abbrev kW:=@List.length_append
abbrev kX:=@List.getElem?_eq_some_iff
abbrev kY:=@Bool.and_eq_true
abbrev kZ:=@List.getElem?_eq_getElem
abbrev mA:=@Nat.le_refl
abbrev mB:=@List.append_assoc
abbrev mC:=@List.length_cons
abbrev mD:=@List.mem_singleton
abbrev mE:=@List.length_map
abbrev mF:=@List.length_singleton
abbrev mG:=@List.getD_eq_getElem?_getD
abbrev mH:=@List.length_take
abbrev mI:=@Nat.le_of_ble_eq_true
abbrev mJ:=@List.forall_mem_cons
abbrev mK:=@List.all_eq_true
abbrev mL:=@List.length_drop
abbrev mM:=@List.append_nil
abbrev mN:=@List.getElem?_append_left
abbrev mO:=@List.take_append_drop
abbrev mP:=@Bool.not_true
abbrev mQ:=@List.mem_append
abbrev mR:=@Bool.false_eq_true
abbrev mS:=@List.mem_cons
abbrev mT:=@List.drop_drop
abbrev mU:=@List.mem_cons_of_mem
abbrev mV:=@List.mem_cons_self
abbrev mW:=@List.length_eq_zero_iff
abbrev mX:=@List.getElem?_map
abbrev mY:=@List.getElem?_drop
abbrev mZ:=@List.map_append
abbrev nA:=@Int.toNat_natCast
abbrev nB:=@List.mem_filter
abbrev nC:=@Nat.mul_one
abbrev nD:=@List.getElem?_append_right
abbrev nE:=@Nat.mul_le_mul_right
abbrev nF:=@List.getElem?_set
abbrev nH:=@List.drop_eq_getElem_cons
abbrev nI:=@List.drop_append_of_le_length
abbrev nJ:=@List.nil_append
abbrev nK:=@List.mem_of_getElem?
abbrev nL:=@Nat.zero_le
abbrev nM:=@Bool.and_self
abbrev nN:=@List.mem_append_left
abbrev nO:=@List.map_cons
abbrev nP:=@Array.ext'
abbrev nQ:=@List.cons_append
abbrev nR:=@Nat.ble_eq_true_of_le
abbrev nS:=@List.drop_of_length_le
abbrev nT:=@Bool.not_false
abbrev nU:=@Nat.succ_mul
abbrev nV:=@List.length_replicate
abbrev nW:=@Bool.or_eq_true
abbrev nX:=@List.take_of_length_le
abbrev nY:=@Option.map_some
abbrev nZ:=@List.mem_map
abbrev uAa:=@List.mem_zipIdx_iff_getElem?
abbrev uAb:=@Array.getElem?_setIfInBounds_ne
abbrev uAc:=@Bool.true_and
abbrev uAd:=@List.append_eq_nil_iff
abbrev uAe:=@List.drop_zero
abbrev uAf:=@List.map_drop
abbrev uAg:=@Nat.add_mul
abbrev uAh:=@Nat.add_comm
abbrev uAi:=@Array.getElem?_modify
abbrev uAj:=@List.mem_append_right
abbrev uAk:=@List.map_congr_left
abbrev uAl:=@List.map_take
abbrev uAm:=@List.getElem?_cons_succ
abbrev uAn:=@List.mem_filterMap
abbrev uAo:=@List.take_succ_cons
abbrev uAp:=@List.mem_iff_getElem?
abbrev uAq:=@Bool.false_and
abbrev uAr:=@Nat.zero_add
abbrev uAs:=@Option.bind_some
abbrev uAt:=@List.take_append_of_le_length
abbrev uAu:=@Nat.add_zero
abbrev uAv:=@List.getElem?_toArray
abbrev uAw:=@List.getElem?_cons_zero
abbrev uAx:=@Nat.lt_succ_self
abbrev uAy:=@List.mem_of_mem_take
abbrev uAz:=@List.getElem_mem
abbrev uAA:=@List.map_nil
abbrev uAB:=@Nat.ble_eq
abbrev uAC:=@List.length_nil
abbrev uAD:=@Array.getElem?_eq_getElem
abbrev uAE:=@List.eq_nil_of_length_eq_zero
abbrev uAF:=@Nat.mod_eq_of_lt
abbrev uAG:=@Nat.le_trans
abbrev uAH:=@List.pairwise_cons
abbrev uAI:=@List.ext_getElem?
abbrev uAJ:=@Int.emod_nonneg
abbrev uAK:=@List.pairwise_lt_range
abbrev uAL:=@List.getElem?_eq_none
abbrev uAM:=@Array.getElem?_toList
abbrev uAN:=@List.getElem?_take
abbrev uAO:=@Int.emod_lt_of_pos
abbrev uAP:=@List.getElem?_eq_none_iff
abbrev uAQ:=@Int.ofNat_eq_natCast
abbrev uAR:=@Nat.min_eq_left
abbrev uAS:=List UInt8
end Go
section
namespace Go.Vc
open Go Go.RowKit
def bs(l:uAS):ByteArray:=⟨l.toArray⟩
def bl(s:ByteArray):uAS:=s.data.toList
theorem Y8(l:uAS):bl (bs l)=l:=rfl
theorem jh(s:ByteArray):s.size=(bl s).length:=(Array.length_toList (xs:=s.data)).symm
theorem zqE(a b:ByteArray):a++b=bs (bl a++bl b):=by apply ByteArray.ext;simp[bs,bl]
theorem zAO{a b:uAS}(h:bs a=bs b):a=b:=by have:=congrArg bl h;simpa[Y8]using this
def byteAt(l:uAS)(i:Int):Int:=((l.getD i.toNat 0).toNat:Int)
def sub(l:uAS)(j y:Int):uAS:=(l.take y.toNat).drop j.toNat
def zbS(l:uAS)(j:Int):uAS:=l.drop j.toNat
def YX(l:uAS)(j:Int):uAS:=l.take j.toNat
def inK(k:IntKind)(n:Int):Prop:=k.min<=n/\n<=k.max
theorem zjW{k:IntKind}{n:Int}(h:inK k n):k.wrap n=n:=by obtain⟨y,j⟩:=h;cases k<;>simp[IntKind.min,IntKind.max,IntKind.wrap,IntKind.signed,IntKind.bits]at y j⊢ <;>omega
structure Keeps(X:List Nat)(w w':World):Prop where
 os:w'.os=w.os
 tape:w'.tape=w.tape
 output:w'.output=w.output
 size:w.heap.size<=w'.heap.size
 block:∀k,k<w.heap.size->k∉X->w'.heap[k]? =w.heap[k]?
theorem Keeps.refl(X:List Nat)(w:World):Keeps X w w:=⟨rfl,rfl,rfl,mA _,fun _ _ _=>rfl⟩
theorem Keeps.trans{X:List Nat}{a b c:World}(h:Keeps X a b)(k:Keeps X b c):Keeps X a c:=
 ⟨k.os.trans h.os,k.tape.trans h.tape,k.output.trans h.output,uAG h.size k.size,
  fun i j y=>(k.block i (Nat.lt_of_lt_of_le j h.size) y).trans (h.block i j y)⟩
theorem Keeps.mono{X Y:List Nat}{w w':World}(h:Keeps X w w')(j:∀k,k<w.heap.size->k∈X->k∈Y):Keeps Y w w':=
 ⟨h.os,h.tape,h.output,h.size,fun k hk B=>h.block k hk fun y=>B (j k hk y)⟩
theorem Keeps.wide{X:List Nat}{w w':World}(h:Keeps [] w w'):Keeps X w w':=h.mono fun _ _ j=>by cases j
theorem Keeps.below{w w':World}(h:Keeps [] w w'):Below w.heap.size w w':=
 ⟨h.os,h.tape,h.output,h.size,fun k hk=>h.block k hk (by simp)⟩
theorem Keeps.of_below{w w':World}(h:Below w.heap.size w w'):Keeps [] w w':=
 ⟨h.os,h.tape,h.output,h.size,fun k hk _=>h.block k hk⟩
theorem Keeps.drawn{X:List Nat}(w:World)(n:Nat):Keeps X w {w with drawn:=n}:=⟨rfl,rfl,rfl,mA _,fun _ _ _=>rfl⟩
structure HB where
 b:Nat
 o:Obj
 wr:Bool
theorem zV{w:World}{b:Nat}{o:Obj}(h:w.heap[b]? =some o):b<w.heap.size:=by
 rcases Nat.lt_or_ge b w.heap.size with h'|h'
 ·exact h'
 ·simp[Array.getElem?_eq_none h']at h
def look:List (Nat×Value)->Nat->Option Value
 |[],_=>none
 |(s,v)::r,t=>match Nat.beq s t with
  |true=>some v
  |false=>look r t
def subL(L:List (Nat×Value)):List (Nat×Value)->Prop
 |[]=>True
 |(t,v)::r=>look L t=some v/\subL L r
inductive Mode where
 |exact|wrap
def Mode.int(m:Mode)(k:IntKind)(n:Int):Option Prop×Value:=
 match m with
 |.exact=>(some (inK k n),.int k n)
 |.wrap=>(none,.int k (k.wrap n))
def jl:Option Prop->Prop
 |none=>True
 |some c=>c
theorem Mode.int_val(m:Mode)(k:IntKind)(n:Int){c:Option Prop}{v:Value}(h:m.int k n=(c,v))(hc:jl c):Value.int k (k.wrap n)=v:=by
 cases m<;>simp only[Mode.int,Prod.mk.injEq]at h<;>obtain⟨rfl,rfl⟩:=h
 ·rw[zjW hc]
 ·rfl
def kEq(a b:IntKind):Bool:=decide (a=b)
def zlG(m:Mode)(op:BinOp)(k:IntKind)(a b:Int):Option (Option Prop×Value):=
 match op with
 |.add=>some (m.int k (a+b))
 |.sub=>some (m.int k (a-b))
 |.mul=>some (m.int k (a*b))
 |.quo=>some (some (0<=a/\0<b/\inK k (a/b)),.int k (a/b))
 |.rem=>some (some (0<=a/\0<b),.int k (a%b))
 |.eql=>some (none,.bool (a==b))
 |.neq=>some (none,.bool (a !=b))
 |.lss=>some (none,.bool (decide (a<b)))
 |.leq=>some (none,.bool (decide (a<=b)))
 |.gtr=>some (none,.bool (decide (b<a)))
 |.geq=>some (none,.bool (decide (b<=a)))
 |.and=>some (none,.int k (bits .and k a b))
 |.or=>some (none,.int k (bits .or k a b))
 |.xor=>some (none,.int k (bits .xor k a b))
 |_=>none
def znK(op:BinOp)(a b:uAS):Option (Option Prop×Value):=
 match op with
 |.add=>some (some (a.length+b.length<=9223372036854775807),.string (bs (a++b)))
 |.eql=>some (none,.bool (a==b))
 |.neq=>some (none,.bool (!(a==b)))
 |.lss=>some (none,.bool (Op.bytesLess a b))
 |.leq=>some (none,.bool (Op.bytesLess a b||a==b))
 |.gtr=>some (none,.bool (!(Op.bytesLess a b||a==b)))
 |.geq=>some (none,.bool (!(Op.bytesLess a b)))
 |_=>none
def znL(op:BinOp)(a b:Bool):Option (Option Prop×Value):=
 match op with
 |.eql=>some (none,.bool (a==b))
 |.neq=>some (none,.bool (!(a==b)))
 |_=>none
end Go.Vc
end
section
namespace Go.Vc
open Go Go.RowKit
def zF(P:Program)(t:TypeId):Option Bool:=
 match P.underlying t with
 |some (.struct _)=>some true
 |some (.array _ _)=>some true
 |some _=>some false
 |none=>none
def zH(P:Program)(t:TypeId):Option Nat:=
 match P.info? t with
 |some i=>some i.size
 |none=>none
def z7(P:Program)(t:TypeId)(cs:List Value)(off:Nat):Option Value:=
 match zF P t,zH P t with
 |some true,some n=>some (.agg ((cs.drop off).take n).toArray)
 |some false,some _=>cs[off]?
 |_,_=>none
def Je(P:Program)(f:TypeId->Value->Value->Option Bool)(xs ys:List Value):List Field->Option Bool
 |[]=>some true
 |[g]=>
  if g.name== "_" then none else
  match z7 P g.type xs g.offset,z7 P g.type ys g.offset with
  |some a,some b=>f g.type a b
  |_,_=>none
 |g::r=>
  if g.name== "_" then none else
  match z7 P g.type xs g.offset,z7 P g.type ys g.offset with
  |some a,some b=>match f g.type a b,Je P f xs ys r with
   |some c,some r'=>some (c&&r')
   |_,_=>none
  |_,_=>none
def yb(P:Program):Nat->TypeId->Value->Value->Option Bool
 |0,_,_,_=>none
 |d+1,t,x,y=>
  match P.underlying t,x,y with
  |some .bool,.bool a,.bool b=>some (a==b)
  |some (.int _),.int k a,.int B b=>if kEq k B then some (a==b)else none
  |some .string,.string a,.string b=>some (bl a==bl b)
  |some (.struct fs),.agg xs,.agg j=>if P.stoodInHeld t then none else Je P (yb P d) xs.toList j.toList fs.toList
  |_,_,_=>none
def KU(P:Program)(m:Mode)(op:BinOp)(t:TypeId)(y H:Value):Option (Option Prop×Value):=
 match y,H with
 |.int k a,.int B b=>match op with
  |.shl=>some (some (0<=b/\b<=(k.bits:Int)),.int k (k.wrap (a*2^b.toNat)))
  |.shr=>some (some (0<=b/\b<=(k.bits:Int)),.int k (a/2^b.toNat))
  |op=>if kEq k B then zlG m op k a b else none
 |.string a,.string b=>znK op (bl a) (bl b)
 |.bool a,.bool b=>
  match P.underlying t with
  |some .bool=>znL op a b
  |_=>none
 |.agg xs,.agg j=>
  if P.eqGuardType P.depth t then none else
  match op with
  |.eql=>match yb P 8 t (.agg xs) (.agg j)with
   |some r=>some (none,.bool r)
   |none=>none
  |.neq=>match yb P 8 t (.agg xs) (.agg j)with
   |some r=>some (none,.bool (!r))
   |none=>none
  |_=>none
 |.slice a _ _,.slice none _ _=>match P.underlying t with
  |some (.slice _)=>match op with
   |.eql=>some (none,.bool a.isNone)
   |.neq=>some (none,.bool (!a.isNone))
   |_=>none
  |_=>none
 |_,_=>none
def isK:Operand->Bool
 |.const _=>true
 |_=>false
def znB(P:Program)(op:BinOp)(t:TypeId)(j:Value):Option (Option Prop×Value):=
 match P.underlying t,op,j with
 |some (.interface _),.eql,.nilIface=>some (none,.bool true)
 |some (.interface _),.neq,.nilIface=>some (none,.bool false)
 |some (.interface _),.eql,.iface _ _=>some (none,.bool false)
 |some (.interface _),.neq,.iface _ _=>some (none,.bool true)
 |_,_,_=>none
def zpV(ev:Operand->Option Value):Option Operand->Option (Option Value)
 |none=>some none
 |some x=>match ev x with
  |some v=>some (some v)
  |none=>none
def zhI(s:ByteArray):Option Value->Option Value->Option (Option Prop×Value)
 |none,none=>some (none,.string s)
 |some (.int _ j),none=>some (some (0<=j/\j<=(bl s).length),.string (bs (zbS (bl s) j)))
 |none,some (.int _ y)=>some (some (0<=y/\y<=(bl s).length),.string (bs (YX (bl s) y)))
 |some (.int _ j),some (.int _ y)=>some (some (0<=j/\j<=y/\y<=(bl s).length),.string (bs (Vc.sub (bl s) j y)))
 |_,_=>none
def zkI(ev:Operand->Option Value):List Operand->Option (List Value)
 |[]=>some []
 |x::r=>match ev x,zkI ev r with
  |some v,some vs=>some (v::vs)
  |_,_=>none
def zmJ(ev:Operand->Option Value):List (Nat×Operand)->Option (List (Nat×Value))
 |[]=>some []
 |(i,x)::r=>match ev x,zmJ ev r with
  |some v,some vs=>some ((i,v)::vs)
  |_,_=>none
def yI:Value->Bool
 |.agg _|.tuple _=>false
 |_=>true
def Xz(P:Program):List Field->Option (List (Nat×Nat))
 |[]=>some []
 |f::r=>match zH P f.type,Xz P r with
  |some n,some j=>some ((f.offset,n)::j)
  |_,_=>none
def KT(P:Program)(t:TypeId)(y:List (Nat×Value)):Option Value:=
 match P.info? t,P.underlying t with
 |some i,some (.struct B)=>
  match i.zero,Xz P B.toList with
  |some z,some places=>match Instr.fill (fun j=>places[j]?) z.cells y with
   |some cells=>some (.agg cells)
   |none=>none
  |_,_=>none
 |some i,some (.array _ elem)=>
  match i.zero,zH P elem with
  |some z,some H=>match Instr.fill (fun j=>some (j*H,H)) z.cells y with
   |some cells=>some (.agg cells)
   |none=>none
  |_,_=>none
 |_,_=>none
def zI(P:Program)(m:Mode)(ev:Operand->Option Value)(op:Op):Option (Option Prop×Value):=
 match op with
 |.move x|.assign x=>match ev x with
  |some v=>some (none,v)
  |none=>none
 |.binOp op t x y _=>match ev x,ev y with
  |some U,some Z=>match isK y,Z with
   |true,.nilIface=>znB P op t U
   |_,_=>KU P m op t U Z
  |_,_=>none
 |.unOp op _ x=>match op,ev x with
  |.not,some (.bool b)=>some (none,.bool (!b))
  |.neg,some (.int k n)=>some (m.int k (-n))
  |_,_=>none
 |.convert O dst x=>match P.underlying O,P.underlying dst,ev x with
  |some (.int _),some (.int k),some (.int _ n)=>some (m.int k n)
  |some .string,some .string,some (.string s)=>some (none,.string s)
  |_,_,_=>none
 |.extract x i=>match ev x with
  |some (.tuple vs)=>match vs.toList[i]? with
   |some v=>some (none,v)
   |none=>none
  |_=>none
 |.nilCheck x=>match ev x with
  |some (.pointer (some a))=>some (none,.pointer (some a))
  |some (.func (.func f) first cap)=>some (none,.func (.func f) first cap)
  |_=>none
 |.makeFunc fn first H=>match zkI ev first.toList,zkI ev H.toList with
  |some vs,some us=>some (none,.func fn vs.toArray us.toArray)
  |_,_=>none
 |.index t x i=>match P.underlying t,ev x,ev i with
  |some .string,some (.string s),some (.int _ n)=>some (some (0<=n/\n<(bl s).length),.int .u8 (byteAt (bl s) n))
  |some (.array len elem),some (.agg cs),some (.int _ n)=>match zH P elem with
   |some B=>match z7 P elem cs.toList (n.toNat*B)with
    |some v=>some (some (0<=n/\n<(len:Int)),v)
    |none=>none
   |none=>none
  |_,_,_=>none
 |.slice t x lo hi mx=>match P.underlying t,ev x,zpV ev lo,zpV ev hi,mx with
  |some .string,some (.string s),some l,some h,none=>zhI s l h
  |_,_,_,_,_=>none
 |.fieldAddr s x f=>match P.underlying s,ev x with
  |some (.struct j),some (.pointer (some a))=>match j[f]? with
   |some J=>match zH P J.type with
    |some n=>if Nat.beq n 0 then none else some (none,.pointer (some (a.add J.offset)))
    |none=>none
   |none=>none
  |_,_=>none
 |.field t x f=>match P.underlying t,ev x with
  |some (.struct j),some (.agg cs)=>match j[f]? with
   |some J=>match z7 P J.type cs.toList J.offset with
    |some v=>some (none,v)
    |none=>none
   |none=>none
  |_,_=>none
 |.indexAddr t x i=>match P.underlying t,ev x,ev i with
  |some (.slice elem),some (.slice (some a) len _),some (.int _ n)=>match zH P elem with
   |some B=>some (some (0<=n/\n<(len:Int)),.pointer (some (a.add (n.toNat*B))))
   |none=>none
  |some (.array len elem),some (.pointer (some a)),some (.int _ n)=>match zH P elem with
   |some B=>some (some (0<=n/\n<(len:Int)),.pointer (some (a.add (n.toNat*B))))
   |none=>none
  |_,_,_=>none
 |.build t I=>match zmJ ev I.toList with
  |some ps=>match KT P t ps with
   |some v=>some (none,v)
   |none=>none
  |none=>none
 |.call {callee:=.builtin .len,args,argTypes}=>match argTypes.toList,args.toList with
  |[t],[x]=>match P.underlying t,ev x with
   |some .string,some (.string s)=>some (none,.int .i64 ((bl s).length:Int))
   |some (.slice _),some (.slice _ n _)=>some (none,.int .i64 (n:Int))
   |some (.array n _),some _=>some (none,.int .i64 (n:Int))
   |_,_=>none
  |_,_=>none
 |_=>none
section
variable {P : Program}
theorem ji{t:TypeId}{n:Nat}{W:World}(h:zH P t=some n):(sizeOf t).run P W=.ok n W:=by
 unfold zH at h;split at h
 ·rename_i i j;cases h;simp[sizeOf,typeInfo,j]
 ·cases h
theorem zac(cs:Array Value)(off n:Nat):cs.extract off (off+n)=(List.take n (List.drop off cs.toList)).toArray:=by apply nP;simp[List.extract_eq_take_drop]
theorem ZK{t:TypeId}{cs:Array Value}{off:Nat}{v:Value}{W:World}(h:z7 P t cs.toList off=some v):(part t cs off).run P W=.ok v W:=by
 unfold z7 at h;split at h
 ·rename_i n ha B;cases h;unfold zF at ha;have H:=ji (W:=W) B;split at ha
  ·rename_i j;simp[part,isAgg,run_underlying j,H,zac]
  ·rename_i j;simp[part,isAgg,run_underlying j,H,zac]
  ·cases ha
  ·cases ha
 ·rename_i n ha B;unfold zF at ha;split at ha
  ·cases ha
  ·cases ha
  ·rename_i d I J j;have O:cs[off]? =some v:=by simpa using h
   have y:(isAgg t).run P W=.ok false W:=by simp only[isAgg,Sem.run_bind,run_underlying j,Result.andThen_ok];cases d<;>simp_all
   simp[part,y,O]
  ·cases ha
 ·cases h
theorem zkm(d D:Nat)(f:TypeId->Value->Value->Option Bool)(W:World)
  (hf:∀t x y r,f t x y=some r->(Op.equalIn D t x y).run P W=.ok r W) (xs ys:Array Value):∀(l:List Field)(r:Bool),
  Je P f xs.toList ys.toList l=some r->(Op.eqFields D xs ys l).run P W=.ok r W
 |[],r,h=>by simp[Je]at h;subst h;simp[Op.eqFields]
 |[g],r,h=>by
  simp only[Je]at h;split at h
  ·cases h
  ·rename_i hn;have hn':g.name≠ "_" :=by simpa using hn
   split at h
   ·rename_i a b ha hb;simp only[Op.eqFields,ne_eq,hn',not_false_eq_true,if_true,Sem.run_bind,ZK ha,ZK hb,Result.andThen_ok,hf _ _ _ _ h];cases r<;>simp
   ·cases h
 |g::g'::l,r,h=>by
  rw[Je]at h;case x_1=>intro hh;cases hh
  split at h
  ·cases h
  ·rename_i hn;have hn':g.name≠ "_" :=by simpa using hn
   split at h
   ·rename_i a b ha hb;split at h
    ·rename_i c r' hc hr;cases h;have ih:=zkm d D f W hf xs ys (g'::l) r' hr;rw[Op.eqFields];simp only[ne_eq,hn',not_false_eq_true,if_true,Sem.run_bind,ZK ha,ZK hb,Result.andThen_ok,hf _ _ _ _ hc];cases c
     ·simp
     ·simp[ih]
    ·cases h
   ·cases h
theorem zas:∀(d D:Nat)(t:TypeId)(x y:Value)(r:Bool)(W:World),d<=D->yb P d t x y=some r->(Op.equalIn D t x y).run P W=.ok r W
 |0,_,_,_,_,_,_,_,h=>by simp[yb]at h
 |d+1,0,_,_,_,_,_,hD,_=>by omega
 |d+1,D+1,t,x,y,r,W,hD,h=>by
  simp only[yb]at h;split at h
  ·rename_i j;cases h;exact run_equalIn_bool W D t _ _ j
  ·rename_i j;split at h
   ·rename_i hk;cases h;have:=of_decide_eq_true hk;subst this;exact run_equalIn_int W D t _ _ _ _ j
   ·cases h
  ·rename_i j;cases h;rw[run_equalIn_string W D t _ _ j,ByteArray.toList_eq,ByteArray.toList_eq];rfl
  ·rename_i fs xs B j;split at h
   ·cases h
   ·rename_i J;have H:P.fieldsOf t=fs:=by simp[Program.fieldsOf,j]
    rw[run_equalIn_struct W D t xs B (by rw[H];exact j) (by simpa using J),H];exact zkm d D _ W (fun t x y r I=>zas d D t x y r W (by omega) I) xs B _ _ h
  ·cases h
theorem zbY(W:World)(D:Nat)(t e:TypeId)(a:Option Addr)(n c y j:Nat)(B:P.underlying t=some (.slice e)):
  (Op.equalIn (D+1) t (.slice a n c) (.slice none y j)).run P W=.ok a.isNone W:=by
 cases a<;>simp[Op.equalIn,run_underlying B]
theorem zse{m:Mode}{op:BinOp}{t:TypeId}{vx vy:Value}{c:Option Prop}{v:Value}(h:KU P m op t vx vy=some (c,v))(hc:jl c)
  (x y:Operand) (W:World):
  (do eqGuard op t x y vx vy;binOp op t vx vy).run P W=.ok v W:=by
 unfold KU at h;split at h
 ·rename_i k a B b;have J:∀o:BinOp,o=.shl\/o=.shr->(eqGuard o t x y (.int k a) (.int B b)).run P W=.ok () W:=by intro o ho;rcases ho with rfl|rfl<;>(unfold eqGuard;split<;>simp_all)
  split at h
  ·simp only[Option.some.injEq,Prod.mk.injEq]at h;obtain⟨rfl,rfl⟩:=h;rw[Sem.run_bind,J .shl (.inl rfl),Result.andThen_ok];show(Op.shift .shl k a B b).run P W=_;rw[shift_shl k B a b hc.1 hc.2];rfl
  ·simp only[Option.some.injEq,Prod.mk.injEq]at h;obtain⟨rfl,rfl⟩:=h;rw[Sem.run_bind,J .shr (.inr rfl),Result.andThen_ok];show(Op.shift .shr k a B b).run P W=_;rw[shift_shr k B a b hc.1 hc.2];rfl
  split at h
  ·rename_i hk;obtain rfl:k=B:=by simpa[kEq]using hk
   have j:(eqGuard op t x y (.int k a) (.int k b)).run P W=.ok () W:=by unfold eqGuard;split<;>simp_all
   rw[Sem.run_bind,j,Result.andThen_ok];cases op<;>simp only[zlG,Option.some.injEq,Prod.mk.injEq,reduceCtorEq]at h;case add=>have:=m.int_val k (a+b) h hc;subst this;simp[binOp,Op.intArith]
   case sub=>have:=m.int_val k (a-b) h hc;subst this;simp[binOp,Op.intArith]
   case mul=>have:=m.int_val k (a*b) h hc;subst this;simp[binOp,Op.intArith]
   case quo=>
    obtain⟨rfl,rfl⟩:=h;obtain⟨U,h2,h3⟩:=hc;have I:¬b=0:=by omega
    have hd:a.tdiv b=a/b:=Int.tdiv_eq_ediv_of_nonneg U;simp[binOp,Op.intDiv,I,hd,zjW h3]
   case rem=>
    obtain⟨rfl,rfl⟩:=h;obtain⟨U,h2⟩:=hc;have I:¬b=0:=by omega
    have hd:a.tmod b=a%b:=Int.tmod_eq_emod_of_nonneg U;simp[binOp,Op.intDiv,I,hd]
   case and=>obtain⟨rfl,rfl⟩:=h;simp[binOp,intBits_and]
   case or=>obtain⟨rfl,rfl⟩:=h;simp[binOp,intBits_or]
   case xor=>obtain⟨rfl,rfl⟩:=h;simp[binOp,intBits_xor]
   all_goals (obtain⟨rfl,rfl⟩:=h;simp[binOp,Op.intCmp])
  ·cases h
 ·rename_i a b;have j:(eqGuard op t x y (.string a) (.string b)).run P W=.ok () W:=by unfold eqGuard;split<;>simp_all
  rw[Sem.run_bind,j,Result.andThen_ok];have e1:a.toList=bl a:=ByteArray.toList_eq a;have e2:b.toList=bl b:=ByteArray.toList_eq b;cases op<;>simp only[znK,Option.some.injEq,Prod.mk.injEq,reduceCtorEq]at h;case add=>
   obtain⟨rfl,rfl⟩:=h;have hc':(bl a).length+(bl b).length<=9223372036854775807:=hc;have I:¬(((a.size+b.size:Nat):Int)>IntKind.i64.max):=by have:IntKind.i64.max=9223372036854775807:=rfl;rw[this,jh,jh];omega
   simp only[binOp,Op.stringOp,I,if_false,zqE];simp
  all_goals (obtain⟨rfl,rfl⟩:=h;simp[binOp,Op.stringOp,e1,e2])
 ·rename_i a b;split at h
  ·rename_i O;have j:(eqGuard op t x y (.bool a) (.bool b)).run P W=.ok () W:=by unfold eqGuard;split<;>simp_all
   rw[Sem.run_bind,j,Result.andThen_ok];cases op<;>simp only[znL,Option.some.injEq,Prod.mk.injEq,reduceCtorEq]at h;case eql=>obtain⟨rfl,rfl⟩:=h;exact run_eql_bool W t a b O
   case neq=>obtain⟨rfl,rfl⟩:=h;exact run_neq_bool W t a b O
  ·cases h
 ·rename_i xs ys;split at h
  ·cases h
  ·rename_i hg0;have j:(eqGuard op t x y (.agg xs) (.agg ys)).run P W=.ok () W:=by
    have hgt:P.eqGuardType P.depth t=false:=by simpa using hg0
    cases op<;>simp[eqGuard,hgt]
   rw[Sem.run_bind,j,Result.andThen_ok];cases op<;>simp only[reduceCtorEq]at h;case eql=>
    split at h
    ·rename_i r Z;simp only[Option.some.injEq,Prod.mk.injEq]at h;obtain⟨rfl,rfl⟩:=h;have H:(Op.equalIn 10000 t (.agg xs) (.agg ys)).run P W=.ok r W:=zas 8 10000 t _ _ r W (by omega) Z;rw[run_eql_struct,H];rfl
    ·cases h
   case neq=>
    split at h
    ·rename_i r Z;simp only[Option.some.injEq,Prod.mk.injEq]at h;obtain⟨rfl,rfl⟩:=h;have H:(Op.equalIn 10000 t (.agg xs) (.agg ys)).run P W=.ok r W:=zas 8 10000 t _ _ r W (by omega) Z;rw[run_neq_struct,H];rfl
    ·cases h
 ·rename_i a n c n' c';have j:(eqGuard op t x y (.slice a n c) (.slice none n' c')).run P W=.ok () W:=by unfold eqGuard;split<;>simp_all
  rw[Sem.run_bind,j,Result.andThen_ok];split at h
  ·rename_i e O;have H:(Op.equal t (.slice a n c) (.slice none n' c')).run P W=.ok a.isNone W:=zbY W 9999 t e a n c n' c' O;split at h
   ·cases h;simp[binOp,H]
   ·cases h;simp[binOp,H]
   ·cases h
  ·cases h
 ·cases h
theorem Qm(W:World)(D:Nat)(t:TypeId)(j:Array (String×TypeId))(y:P.underlying t=some (.interface j)):(Op.equalIn (D+1) t .nilIface .nilIface).run P W=.ok true W:=by simp[Op.equalIn,run_underlying y]
theorem Qn(W:World)(D:Nat)(t:TypeId)(j:Array (String×TypeId))(a:TypeId)(b:Value)(y:P.underlying t=some (.interface j)):(Op.equalIn (D+1) t (.iface a b) .nilIface).run P W=.ok false W:=by simp[Op.equalIn,run_underlying y]
theorem zsf{op:BinOp}{t:TypeId}{H:Value}{c:Option Prop}{v:Value}(h:znB P op t H=some (c,v)){y:Operand}(I:isK y=true)(x:Operand)(W:World):
  (do eqGuard op t x y H .nilIface;binOp op t H .nilIface).run P W=.ok v W:=by
 have hk:∃u,y=.const u:=by cases y<;>first|exact⟨_,rfl⟩|cases I
 obtain⟨u,rfl⟩:=hk;unfold znB at h;split at h<;>cases h
 ·rename_i B;have j:(Op.equal t .nilIface .nilIface).run P W=.ok true W:=by exact Qm W 9999 t _ B
  simp[eqGuard,binOp,j]
 ·rename_i B;have j:(Op.equal t .nilIface .nilIface).run P W=.ok true W:=by exact Qm W 9999 t _ B
  simp[eqGuard,binOp,j]
 ·rename_i a b B;have j:(Op.equal t (.iface a b) .nilIface).run P W=.ok false W:=by exact Qn W 9999 t _ a b B
  simp[eqGuard,binOp,j]
 ·rename_i a b B;have j:(Op.equal t (.iface a b) .nilIface).run P W=.ok false W:=by exact Qn W 9999 t _ a b B
  simp[eqGuard,binOp,j]
theorem ziM{ev:Operand->Option Value}{ρ:Operand->Value}:∀(l:List Operand)(vs:List Value),(∀x∈l,∀v,ev x=some v->ρ x=v)->
  zkI ev l=some vs->l.map ρ=vs
 |[],vs,_,h=>by simp[zkI]at h;simp[h]
 |x::r,vs,hρ,h=>by
  simp only[zkI]at h;split at h
  ·rename_i v j hv H;cases h;rw[nO,hρ x (by simp) v hv,ziM r j (fun y B=>hρ y (by simp[B])) H]
  ·cases h
theorem zo9{ev:Operand->Option Value}{ρ:Operand->Value}:∀(l:List (Nat×Operand))(vs:List (Nat×Value)),(∀x∈l,∀v,ev x.2=some v->ρ x.2=v)->
  zmJ ev l=some vs->l.map (fun p=>(p.1,ρ p.2))=vs
 |[],vs,_,h=>by simp[zmJ]at h;simp[h]
 |(i,x)::r,vs,hρ,h=>by
  simp only[zmJ]at h;split at h
  ·rename_i v j hv H;cases h;rw[nO,hρ (i,x) (by simp) v hv,zo9 r j (fun y B=>hρ y (by simp[B])) H]
  ·cases h
theorem zbt(W:World):∀(l:List Field)(j:List (Nat×Nat)),Xz P l=some j->
  (l.mapM fun f=>do pure (f.offset,<-sizeOf f.type):Sem (List (Nat×Nat))).run P W=.ok j W
 |[],j,h=>by simp[Xz]at h;subst h;simp
 |f::r,j,h=>by
  simp only[Xz]at h;split at h
  ·rename_i n H B I;cases h;have y:=zbt W r H I;rw[List.mapM_cons,Sem.run_bind,Sem.run_bind,ji B,Result.andThen_ok];show(Sem.run P (List.mapM _ r>>=_) W)=_;rw[Sem.run_bind,y,Result.andThen_ok];rfl
  ·cases h
theorem zkl{ev:Operand->Option Value}{ρ:Operand->Value}{x:Option Operand}{v:Option Value}(h:zpV ev x=some v)
  (j:∀y,x=some y->∀u,ev y=some u->ρ y=u):x.map ρ=v:=by
 cases x with
 |none=>simp[zpV]at h;simp[h]
 |some y=>
  simp only[zpV]at h;split at h
  ·rename_i u B;cases h;simp[j y rfl u B]
  ·cases h
theorem znw(s:ByteArray){n:Int}(B:0<=n)(H:n<(bl s).length):s[n.toNat]? =some ((bl s).getD n.toNat 0):=by
 have j:n.toNat<(bl s).length:=by omega
 have y:n.toNat<s.size:=by rw[jh];exact j
 rw[ByteArray.getElem?_lt' s _ y];have:(bl s).getD n.toNat 0=(bl s)[n.toNat]:=by rw[mG,kZ j];rfl
 rw[this];rfl
theorem qd{k:IntKind}{i:Int}{y:Nat}{j:BoundsCode}{W:World}(h:0<=i/\i<=y):
  (Instr.sliceBound (.int k i) y j).run P W=.ok i.toNat W:=by
 simp[Instr.sliceBound,asIntOf,h]
theorem KN(s:ByteArray)(a b:Nat):s.extract a b=bs ((bl s).take b|>.drop a):=by have h:=ByteArray.extract_mk (bl s) a b;have e:(ByteArray.mk (bl s).toArray)=s:=rfl;rw[e]at h;rw[h,List.drop_take];rfl
theorem zl7{t:TypeId}{s:ByteArray}{l h:Option Value}{c:Option Prop}{v:Value}{W:World}(J:P.underlying t=some .string)
  (H:zhI s l h=some (c,v)) (hc:jl c):(Instr.sliceAt t (.string s) l h none).run P W=.ok v W:=by
 have j:=jh s;unfold zhI at H;split at H
 ·cases H;simp[Instr.sliceAt,Instr.slice,Instr.sliceBounds,run_underlying J]
 ·cases H;rename_i k B;have hc:0<=B/\B<=((bl s).length:Int):=hc;have I:(Instr.sliceBound (.int k B) s.size .sliceB).run P W=.ok B.toNat W:=qd (by rw[j];exact hc);rw[j]at I;simp[Instr.sliceAt,Instr.slice,Instr.sliceBounds,run_underlying J,I,KN,zbS,j]
 ·cases H;rename_i k y;have hc:0<=y/\y<=((bl s).length:Int):=hc;have I:(Instr.sliceBound (.int k y) s.size .sliceAlen).run P W=.ok y.toNat W:=qd (by rw[j];exact hc);simp[Instr.sliceAt,Instr.slice,Instr.sliceBounds,run_underlying J,I,KN,YX]
 ·cases H;rename_i k B Z y;obtain⟨h0,I,h2⟩:0<=B/\B<=y/\y<=((bl s).length:Int):=hc;have U:(Instr.sliceBound (.int Z y) s.size .sliceAlen).run P W=.ok y.toNat W:=qd (by rw[j];omega);have O:(Instr.sliceBound (.int k B) y.toNat .sliceB).run P W=.ok B.toNat W:=qd (by omega);simp[Instr.sliceAt,Instr.slice,Instr.sliceBounds,run_underlying J,U,O,KN,Vc.sub]
 ·cases H
theorem zl8{t:TypeId}{j:Array (Nat×Value)}{v:Value}{W:World}(h:KT P t j.toList=some v):
  (Instr.build t j).run P W=.ok v W:=by
 unfold KT at h;split at h
 ·rename_i i y I U;split at h
  ·rename_i z places H hp;split at h
   ·rename_i cells J;cases h;have hm:=zbt W _ _ hp;have O:(y.mapM fun f=>do pure (f.offset,<-sizeOf f.type):Sem (Array (Nat×Nat))).run P W=.ok places.toArray W:=by rw[Array.mapM_eq_mapM_toList];simp only[map_eq_pure_bind];rw[Sem.run_bind,hm];rfl
    have B:(zeroValue t).run P W=.ok z W:=by simp[zeroValue,typeInfo,I,H]
    simp only[Instr.build,Sem.run_bind,B,Result.andThen_ok,run_underlying U,O];simp[J]
   ·cases h
  ·cases h
 ·rename_i i n elem I U;split at h
  ·rename_i z Z H hp;split at h
   ·rename_i cells J;cases h;have B:(zeroValue t).run P W=.ok z W:=by simp[zeroValue,typeInfo,I,H]
    simp only[Instr.build,Sem.run_bind,B,Result.andThen_ok,run_underlying U,ji hp];simp[J]
   ·cases h
  ·cases h
 ·cases h
theorem zeA{m:Mode}{ev:Operand->Option Value}{ρ:Operand->Value}{o:Oper}{c:Option Prop}{v:Value}
  (h:zI P m ev o.op=some (c,v)) (hc:jl c) (B:∀x∈o.op.operands,∀u,ev x=some u->ρ x=u) (W:World):
  (execOp ρ o).run P W=.ok (.value v) W:=by
 obtain⟨dst,op,type,pos,after,guard⟩:=o;simp only at h B;unfold zI at h;split at h
 ·rename_i x;split at h
  ·rename_i u O;cases h;simp[execOp,B x (by simp[Op.operands]) _ O]
  ·cases h
 ·rename_i x;split at h
  ·rename_i u O;cases h;simp[execOp,B x (by simp[Op.operands]) _ O]
  ·cases h
 ·rename_i op t x y yt;split at h
  ·rename_i vx vy j hy;split at h
   ·rename_i hk;have:=zsf h hk x W;simp only[execOp,B x (by simp[Op.operands]) _ j,B y (by simp[Op.operands]) _ hy];rw[Sem.run_bind,this];rfl
   ·have:=zse h hc x y W;simp only[execOp,B x (by simp[Op.operands]) _ j,B y (by simp[Op.operands]) _ hy];rw[Sem.run_bind,this];rfl
  ·cases h
 ·rename_i op t x;split at h
  ·rename_i b j;cases h;simp[execOp,Op.unary,B x (by simp[Op.operands]) _ j]
  ·rename_i k n j;simp only[Option.some.injEq]at h;have:=m.int_val k (-n) h hc;subst this;simp[execOp,Op.unary,Op.intArith,B x (by simp[Op.operands]) _ j]
  ·cases h
 ·rename_i src dst' x;split at h
  ·rename_i k0 k k1 n H h2 j;simp only[Option.some.injEq]at h;have:=m.int_val k n h hc;subst this;simp[execOp,convert,Conv.intToInt,run_underlying H,run_underlying h2,B x (by simp[Op.operands]) _ j]
  ·rename_i s H h2 j;cases h;simp[execOp,convert,run_underlying H,run_underlying h2,B x (by simp[Op.operands]) _ j]
  ·cases h
 ·rename_i x i;split at h
  ·rename_i vs j;split at h
   ·rename_i u O;cases h;have hu':vs[i]? =some v:=by simpa using O
    simp[execOp,Instr.extract,B x (by simp[Op.operands]) _ j,hu']
   ·cases h
  ·cases h
 ·rename_i x;split at h
  ·rename_i a j;cases h;simp[execOp,B x (by simp[Op.operands]) _ j]
  ·rename_i f first cap j;cases h;simp[execOp,B x (by simp[Op.operands]) _ j]
  ·cases h
 ·rename_i fn first I
  split at h
  ·rename_i vs us H h2;cases h;have e1:=ziM first.toList vs (fun x j=>B x (by simp[Op.operands];exact .inl (by simpa using j))) H
   have e2:=ziM I.toList us (fun x j=>B x (by simp[Op.operands];exact .inr (by simpa using j))) h2;have e1':first.map ρ=vs.toArray:=by apply nP;simpa using e1
   have e2':I.map ρ=us.toArray:=by apply nP;simpa using e2
   simp[execOp,Instr.makeFunc,e1',e2']
  ·cases h
 ·rename_i t x i;split at h
  ·rename_i s k n H j hi;cases h;have hc:0<=n/\n<((bl s).length:Int):=hc;have hb:=znw s hc.1 hc.2;simp[execOp,Instr.index,asIntOf,run_underlying H,B x (by simp[Op.operands]) _ j,B i (by simp[Op.operands]) _ hi,hc.1,hb,byteAt]
  ·rename_i len elem cs k n H j hi;split at h
   ·rename_i size hs;split at h
    ·rename_i u O;cases h;have hc:0<=n/\n<(len:Int):=hc;simp[execOp,Instr.index,asIntOf,run_underlying H,B x (by simp[Op.operands]) _ j,B i (by simp[Op.operands]) _ hi,hc,ji hs,ZK O]
    ·cases h
   ·cases h
  ·cases h
 ·rename_i t x lo hi mx;split at h
  ·rename_i s l h' H j hl hh;have el:=zkl hl (ρ:=ρ) (fun y hy=>B y (by simp[Op.operands,hy]));have eh:=zkl hh (ρ:=ρ) (fun y hy=>B y (by simp[Op.operands,hy]));have:=zl7 (W:=W) H h hc;simp[execOp,el,eh,B x (by simp[Op.operands]) _ j,this]
  ·cases h
 ·rename_i s x f;split at h
  ·rename_i Z a H j;split at h
   ·rename_i fd hfd;split at h
    ·rename_i n hn;split at h
     ·cases h
     ·rename_i hne;cases h;have hne':¬n=0:=by simpa using hne
      simp[execOp,Instr.fieldAt,Instr.sureAddr,fieldPlace,run_underlying H,B x (by simp[Op.operands]) _ j,hfd,ji hn,hne']
    ·cases h
   ·cases h
  ·cases h
 ·rename_i t x f;split at h
  ·rename_i Z cs H j;split at h
   ·rename_i fd hfd;split at h
    ·rename_i u O;cases h;simp[execOp,Instr.field,asAgg,run_underlying H,B x (by simp[Op.operands]) _ j,hfd,ZK O]
    ·cases h
   ·cases h
  ·cases h
 ·rename_i t x i;split at h
  ·rename_i elem a len cap k n H j hi;split at h
   ·rename_i size hs;cases h;have hc:0<=n/\n<(len:Int):=hc;simp[execOp,Instr.indexAt,asIntOf,run_underlying H,B x (by simp[Op.operands]) _ j,B i (by simp[Op.operands]) _ hi,hc,ji hs]
   ·cases h
  ·rename_i len elem a k n H j hi;split at h
   ·rename_i size hs;cases h;have hc:0<=n/\n<(len:Int):=hc;simp[execOp,Instr.indexAt,Instr.sureAddr,asIntOf,run_underlying H,B x (by simp[Op.operands]) _ j,B i (by simp[Op.operands]) _ hi,hc,ji hs]
   ·cases h
  ·cases h
 ·rename_i t U;split at h
  ·rename_i ps hps;split at h
   ·rename_i u O;cases h;have e:=zo9 U.toList ps (fun x j=>B x.2 (by simp[Op.operands];exact⟨x.1,by simpa using j⟩)) hps;have hb:KT P t (U.map fun p=>(p.1,ρ p.2)).toList=some v:=by rw[Array.toList_map,e];exact O
    have:=zl8 (W:=W) hb;simp only[execOp,Sem.run_bind,this,Result.andThen_ok];rfl
   ·cases h
  ·cases h
 ·rename_i args J;split at h
  ·rename_i t x ht hx';have hta:J= #[t]:=by apply nP;simpa using ht
   have hxa:args= #[x]:=by apply nP;simpa using hx'
   subst hta hxa;split at h
   ·rename_i s H j;cases h;simp[execOp,resolve,invoke,builtin,Builtin.len_,goInt,run_underlying H,B x (by simp[Op.operands,Call.operands]) _ j,jh]
   ·rename_i e a n cap H j;cases h;simp[execOp,resolve,invoke,builtin,Builtin.len_,goInt,run_underlying H,B x (by simp[Op.operands,Call.operands]) _ j]
   ·rename_i n e u H j;cases h;simp[execOp,resolve,invoke,builtin,Builtin.len_,goInt,run_underlying H]
   ·cases h
  ·cases h
 ·cases h
end
end Go.Vc
end
section
namespace Go.Vc
open Go Go.RowKit
inductive Hint where
 |auto (m:Mode)
 |mem (e:Nat)
 |call (v:Value) (st:List Nat) (eff:Option (Nat×Obj))
 |callO (v:Value) (st:List Nat) (eff:Option (Nat×Obj))
 |callP (Φ:Value->World->Prop) (st:List Nat)
 |callQ (v:Value) (st:List Nat)
structure OpR where
 path:List (Nat×Bool)
 val:Value
 eff:Option (Nat×Obj)
 pr:Option (Value->World->Prop):=none
structure RCtx where
 P:Program
 X:List Nat
 w0:World
 ws:World
 Y:List Nat
 ops:List Oper
 L:List (Nat×Value)
 H:List HB
 hints:List (Nat×Hint)
def zAw:List (Nat×Hint)->Nat->Hint
 |[],_=>.auto .exact
 |(j,h)::r,i=>match Nat.beq j i with
  |true=>h
  |false=>zAw r i
def wrFrom:List Oper->Nat->Nat->Option Nat
 |[],_,_=>none
 |o::r,i,t=>match o.dst with
  |some d=>match Nat.beq d t with
   |true=>some i
   |false=>wrFrom r (i+1) t
  |none=>wrFrom r (i+1) t
def gB(j:List OpR)(g:Nat):Bool:=
 match j[g]? with
 |some r=>match r.val with
  |.bool b=>b
  |_=>false
 |none=>false
def zzl(j:List OpR):List (Nat×Bool)->Bool
 |[]=>true
 |(g,w)::r=>(gB j g==w)&&zzl j r
def okV:Value⊕(Value->World->Prop)->Value->World->Prop
 |.inl u,v,_=>v=u
 |.inr Φ,v,W=>Φ v W
def ZD(P:Program)(g:Nat):Bool:=
 match P.funcs[g]? with
 |some fn=>!(fn.name== "runtime.NumGoroutine")&&fn.body.isSome
 |none=>false
theorem jk{P:Program}{g:Nat}(h:ZD P g=true):Proofs.Enters P g:=by
 unfold ZD at h;split at h
 ·rename_i fn j;simp only[kY,Bool.not_eq_true']at h;obtain⟨c,hc⟩:=Option.isSome_iff_exists.1 h.2;exact Proofs.enters_of j h.1 hc
 ·cases h
def edgesOf(o:Oper):List Nat:=o.after.toList.filterMap fun e=>if Region.binds .any e then some e.on else none
def zea:List Oper->List (List Nat)->List (List Nat)
 |[],acc=>acc
 |o::r,acc=>zea r (acc++[((edgesOf o).flatMap fun e=>e::(match acc[e]? with|some l=>l|none=>[])).eraseDups])
def beforeOf(j:Bool)(ops:List Oper):List (List Nat):=if j then zea ops []else(List.range ops.length).map List.range
def isP:Hint->Bool
 |.callP .. =>true
 |_=>false
def memN(x:Nat)(l:List Nat):Bool:=l.any (Nat.beq x)
end Go.Vc
end
