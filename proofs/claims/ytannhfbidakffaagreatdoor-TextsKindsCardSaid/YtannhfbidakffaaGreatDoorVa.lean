/-
  A part of the proof of the laws.
-/
import Derived.Orders
import Derived.Below
import Derived.Laws.Strings
import Derived.Laws.Strings2
import Derived.Laws.StructEq
import Derived.Laws.Small
import Derived.Laws.Entries
import Derived.Laws.Build
import Derived.WalkKit
import Derived.Shelf.Abstract
import Derived.Laws.CopyRow
namespace Go
theorem oM{p:Prop}(h:p:=by omega):p:=h
theorem kR{p:Prop}(h:p:=by kernel_rfl):p:=h
theorem dE{p:Prop}(h:p:=by decide):p:=h
theorem sI{p:Prop}(h:p:=by simp):p:=h
abbrev mE:=@Nat.eq_of_beq_eq_true
abbrev mF:=@Bool.and_eq_true
abbrev mG:=@List.getElem?_eq_some_iff
abbrev mH:=@Nat.le_refl
abbrev mI:=@List.length_take
abbrev mJ:=@List.getElem?_eq_getElem
abbrev mK:=@List.length_replicate
abbrev mL:=@List.mem_singleton
abbrev mM:=@List.length_cons
abbrev mN:=@List.getD_eq_getElem?_getD
abbrev mO:=@List.length_append
abbrev mP:=@List.length_drop
abbrev mQ:=@Nat.le_of_ble_eq_true
abbrev mR:=@List.append_assoc
abbrev mS:=@List.forall_mem_cons
abbrev mT:=@List.all_eq_true
abbrev mU:=@List.mem_append
abbrev mV:=@Int.toNat_natCast
abbrev mW:=@List.take_append_drop
abbrev mX:=@Nat.mul_one
abbrev mY:=@Nat.ble_eq_true_of_le
abbrev mZ:=@List.drop_drop
abbrev nA:=@Bool.false_eq_true
abbrev nB:=@List.mem_cons
abbrev nC:=@Nat.mul_le_mul_right
abbrev nD:=@Nat.le_trans
abbrev nE:=@List.mem_cons_of_mem
abbrev nF:=@List.length_eq_zero_iff
abbrev nH:=@List.getElem?_append_left
abbrev nI:=@List.getElem?_drop
abbrev nJ:=@List.getElem?_append_right
abbrev nK:=@List.getElem?_map
abbrev nL:=@List.getElem?_set
abbrev nM:=@List.append_nil
abbrev nN:=@List.length_map
abbrev nO:=@Bool.or_eq_true
abbrev nP:=@List.mem_filter
abbrev nQ:=@List.take_of_length_le
abbrev nR:=@List.mem_cons_self
abbrev nS:=@List.drop_zero
abbrev nT:=@List.drop_append_of_le_length
abbrev nU:=@List.map_append
abbrev nV:=@Nat.mod_eq_of_lt
abbrev nW:=@Array.ext'
abbrev nX:=@List.mem_of_getElem?
abbrev nY:=@Bool.and_self
abbrev nZ:=@Nat.add_comm
abbrev uAa:=@Nat.add_zero
abbrev uAb:=@List.mem_map
abbrev uAc:=@List.mem_append_left
abbrev uAd:=@Array.getElem?_setIfInBounds_ne
abbrev uAe:=@List.take_succ_cons
abbrev uAf:=@Bool.not_true
abbrev uAg:=@List.append_eq_nil_iff
abbrev uAh:=@List.map_cons
abbrev uAi:=@Bool.true_and
abbrev uAj:=@Nat.add_mul
abbrev uAk:=@List.map_congr_left
abbrev uAl:=@List.drop_eq_getElem_cons
abbrev uAm:=@Nat.zero_le
abbrev uAn:=@Nat.zero_add
abbrev uAo:=@List.getElem?_eq_none
abbrev uAp:=@List.getElem?_cons_succ
abbrev uAq:=@Option.bind_some
abbrev uAr:=@List.mem_iff_getElem?
abbrev uAs:=@List.mem_filterMap
abbrev uAt:=@Nat.lt_succ_self
abbrev uAu:=@List.cons_append
abbrev uAv:=@List.eq_nil_of_length_eq_zero
abbrev uAw:=@List.map_drop
abbrev uAx:=@Array.getElem?_modify
abbrev uAy:=@List.mem_zipIdx_iff_getElem?
abbrev uAz:=@List.length_singleton
abbrev uAA:=@Option.map_some
abbrev uAB:=@List.getElem?_cons_zero
abbrev uAC:=@List.mem_of_mem_take
abbrev uAD:=@Nat.succ_mul
abbrev uAE:=@List.drop_of_length_le
abbrev uAF:=@Nat.min_eq_left
abbrev uAG:=@Array.getElem?_eq_getElem
abbrev uAH:=@List.nil_append
abbrev uAI:=@List.getElem?_toArray
abbrev uAJ:=@List.mem_append_right
abbrev uAK:=@List.take_append_of_le_length
abbrev uAL:=@List.pairwise_cons
abbrev uAM:=@List.map_take
abbrev uAN:=@List.ext_getElem?
abbrev uAO:=@List.length_nil
abbrev uAP:=@List.pairwise_lt_range
abbrev uAQ:=@Nat.ble_eq
abbrev uAR:=@Array.getElem?_toList
abbrev uAS:=@Bool.not_false
abbrev uAT:=@Int.ofNat_eq_natCast
abbrev uAU:=List UInt8
end Go
namespace Go.Vc
open Go Go.RowKit
def bs(l:uAU):ByteArray:=⟨l.toArray⟩
def bl(s:ByteArray):uAU:=s.data.toList
theorem KU(l:uAU):bl (bs l)=l:=rfl
theorem jt(s:ByteArray):s.size=(bl s).length:=(Array.length_toList (xs:=s.data)).symm
theorem zvT(a b:ByteArray):a++b=bs (bl a++bl b):=by apply ByteArray.ext;simp[bs,bl]
theorem zD7{a b:uAU}(h:bs a=bs b):a=b:=by have:=congrArg bl h;simpa[KU]using this
def byteAt(l:uAU)(i:Int):Int:=((l.getD i.toNat 0).toNat:Int)
def sub(l:uAU)(j hi:Int):uAU:=(l.take hi.toNat).drop j.toNat
def zO(l:uAU)(j:Int):uAU:=l.drop j.toNat
def jy(l:uAU)(hi:Int):uAU:=l.take hi.toNat
theorem zws(l:uAU)(j:Int):sub l j l.length=zO l j:=by simp[sub,zO]
def inK(k:IntKind)(n:Int):Prop:=k.min<=n/\n<=k.max
theorem zbT{k:IntKind}{n:Int}(h:inK k n):k.wrap n=n:=by obtain⟨j,B⟩:=h;cases k<;>simp[IntKind.min,IntKind.max,IntKind.wrap,IntKind.signed,IntKind.bits]at j B⊢ <;>omega
structure Keeps(X:List Nat)(w w':World):Prop where
 os:w'.os=w.os
 tape:w'.tape=w.tape
 output:w'.output=w.output
 size:w.heap.size<=w'.heap.size
 block:∀k,k<w.heap.size->k∉X->w'.heap[k]? =w.heap[k]?
theorem Keeps.refl(X:List Nat)(w:World):Keeps X w w:=⟨rfl,rfl,rfl,mH _,fun _ _ _=>rfl⟩
theorem Keeps.trans{X:List Nat}{a b c:World}(h:Keeps X a b)(k:Keeps X b c):Keeps X a c:=
 ⟨k.os.trans h.os,k.tape.trans h.tape,k.output.trans h.output,nD h.size k.size,
  fun i hi j=>(k.block i (Nat.lt_of_lt_of_le hi h.size) j).trans (h.block i hi j)⟩
theorem Keeps.mono{X Y:List Nat}{w w':World}(h:Keeps X w w')(j:∀k,k<w.heap.size->k∈X->k∈Y):Keeps Y w w':=
 ⟨h.os,h.tape,h.output,h.size,fun k hk H=>h.block k hk fun B=>H (j k hk B)⟩
theorem Keeps.wide{X:List Nat}{w w':World}(h:Keeps [] w w'):Keeps X w w':=h.mono fun _ _ j=>by cases j
theorem Keeps.below{w w':World}(h:Keeps [] w w'):Below w.heap.size w w':=
 ⟨h.os,h.tape,h.output,h.size,fun k hk=>h.block k hk sI⟩
theorem Keeps.of_below{w w':World}(h:Below w.heap.size w w'):Keeps [] w w':=
 ⟨h.os,h.tape,h.output,h.size,fun k hk _=>h.block k hk⟩
theorem Keeps.drawn{X:List Nat}(w:World)(n:Nat):Keeps X w {w with drawn:=n}:=⟨rfl,rfl,rfl,mH _,fun _ _ _=>rfl⟩
structure HB where
 b:Nat
 o:Obj
 wr:Bool
theorem ja{w:World}{b:Nat}{o:Obj}(h:w.heap[b]? =some o):b<w.heap.size:=by
 rcases Nat.lt_or_ge b w.heap.size with h'|h'
 ·exact h'
 ·simp[Array.getElem?_eq_none h']at h
def look:List (Nat×Value)->Nat->Option Value
 |[],_=>none
 |(s,v)::r,t=>match Nat.beq s t with
  |true=>some v
  |false=>look r t
def subL(L:List (Nat×Value)):List (Nat×Value)->Prop
 |[]=>True
 |(t,v)::r=>look L t=some v/\subL L r
inductive Mode where
 |exact|wrap
def Mode.int(m:Mode)(k:IntKind)(n:Int):Option Prop×Value:=
 match m with
 |.exact=>(some (inK k n),.int k n)
 |.wrap=>(none,.int k (k.wrap n))
def jA:Option Prop->Prop
 |none=>True
 |some c=>c
theorem Mode.int_val(m:Mode)(k:IntKind)(n:Int){c:Option Prop}{v:Value}(h:m.int k n=(c,v))(hc:jA c):Value.int k (k.wrap n)=v:=by
 cases m<;>simp only[Mode.int,Prod.mk.injEq]at h<;>obtain⟨rfl,rfl⟩:=h
 ·rw[zbT hc]
 ·rfl
def kEq(a b:IntKind):Bool:=decide (a=b)
def zpY(m:Mode)(op:BinOp)(k:IntKind)(a b:Int):Option (Option Prop×Value):=
 match op with
 |.add=>some (m.int k (a+b))
 |.sub=>some (m.int k (a-b))
 |.mul=>some (m.int k (a*b))
 |.quo=>some (some (0<=a/\0<b/\inK k (a/b)),.int k (a/b))
 |.rem=>some (some (0<=a/\0<b),.int k (a%b))
 |.eql=>some (none,.bool (a==b))
 |.neq=>some (none,.bool (a !=b))
 |.lss=>some (none,.bool (decide (a<b)))
 |.leq=>some (none,.bool (decide (a<=b)))
 |.gtr=>some (none,.bool (decide (b<a)))
 |.geq=>some (none,.bool (decide (b<=a)))
 |.and=>some (none,.int k (bits .and k a b))
 |.or=>some (none,.int k (bits .or k a b))
 |.xor=>some (none,.int k (bits .xor k a b))
 |_=>none
def zsr(op:BinOp)(a b:uAU):Option (Option Prop×Value):=
 match op with
 |.add=>some (some (a.length+b.length<=9223372036854775807),.string (bs (a++b)))
 |.eql=>some (none,.bool (a==b))
 |.neq=>some (none,.bool (!(a==b)))
 |.lss=>some (none,.bool (Op.bytesLess a b))
 |.leq=>some (none,.bool (Op.bytesLess a b||a==b))
 |.gtr=>some (none,.bool (!(Op.bytesLess a b||a==b)))
 |.geq=>some (none,.bool (!(Op.bytesLess a b)))
 |_=>none
def zst(op:BinOp)(a b:Bool):Option (Option Prop×Value):=
 match op with
 |.eql=>some (none,.bool (a==b))
 |.neq=>some (none,.bool (!(a==b)))
 |_=>none
section
def zB(P:Program)(t:TypeId):Option Bool:=
 match P.underlying t with
 |some (.struct _)=>some true
 |some (.array _ _)=>some true
 |some _=>some false
 |none=>none
def zK(P:Program)(t:TypeId):Option Nat:=
 match P.info? t with
 |some i=>some i.size
 |none=>none
def jg(P:Program)(t:TypeId)(cs:List Value)(off:Nat):Option Value:=
 match zB P t,zK P t with
 |some true,some n=>some (.agg ((cs.drop off).take n).toArray)
 |some false,some _=>cs[off]?
 |_,_=>none
def YJ(P:Program)(f:TypeId->Value->Value->Option Bool)(xs ys:List Value):List Field->Option Bool
 |[]=>some true
 |[g]=>
  if g.name== "_" then none else
  match jg P g.type xs g.offset,jg P g.type ys g.offset with
  |some a,some b=>f g.type a b
  |_,_=>none
 |g::r=>
  if g.name== "_" then none else
  match jg P g.type xs g.offset,jg P g.type ys g.offset with
  |some a,some b=>match f g.type a b,YJ P f xs ys r with
   |some c,some r'=>some (c&&r')
   |_,_=>none
  |_,_=>none
def yu(P:Program):Nat->TypeId->Value->Value->Option Bool
 |0,_,_,_=>none
 |d+1,t,x,y=>
  match P.underlying t,x,y with
  |some .bool,.bool a,.bool b=>some (a==b)
  |some (.int _),.int k a,.int B b=>if kEq k B then some (a==b)else none
  |some .string,.string a,.string b=>some (bl a==bl b)
  |some (.struct fs),.agg xs,.agg j=>if P.stoodInHeld t then none else YJ P (yu P d) xs.toList j.toList fs.toList
  |_,_,_=>none
def zbI(P:Program)(m:Mode)(op:BinOp)(t:TypeId)(I H:Value):Option (Option Prop×Value):=
 match I,H with
 |.int k a,.int B b=>match op with
  |.shl=>some (some (0<=b/\b<=(k.bits:Int)),.int k (k.wrap (a*2^b.toNat)))
  |.shr=>some (some (0<=b/\b<=(k.bits:Int)),.int k (a/2^b.toNat))
  |op=>if kEq k B then zpY m op k a b else none
 |.string a,.string b=>zsr op (bl a) (bl b)
 |.bool a,.bool b=>
  match P.underlying t with
  |some .bool=>zst op a b
  |_=>none
 |.agg xs,.agg j=>
  if P.eqGuardType P.depth t then none else
  match op with
  |.eql=>match yu P 8 t (.agg xs) (.agg j)with
   |some r=>some (none,.bool r)
   |none=>none
  |.neq=>match yu P 8 t (.agg xs) (.agg j)with
   |some r=>some (none,.bool (!r))
   |none=>none
  |_=>none
 |.slice a _ _,.slice none _ _=>match P.underlying t with
  |some (.slice _)=>match op with
   |.eql=>some (none,.bool a.isNone)
   |.neq=>some (none,.bool (!a.isNone))
   |_=>none
  |_=>none
 |_,_=>none
def isK:Operand->Bool
 |.const _=>true
 |_=>false
def zsm(P:Program)(op:BinOp)(t:TypeId)(j:Value):Option (Option Prop×Value):=
 match P.underlying t,op,j with
 |some (.interface _),.eql,.nilIface=>some (none,.bool true)
 |some (.interface _),.neq,.nilIface=>some (none,.bool false)
 |some (.interface _),.eql,.iface _ _=>some (none,.bool false)
 |some (.interface _),.neq,.iface _ _=>some (none,.bool true)
 |_,_,_=>none
def zuV(ev:Operand->Option Value):Option Operand->Option (Option Value)
 |none=>some none
 |some x=>match ev x with
  |some v=>some (some v)
  |none=>none
def zlj(s:ByteArray):Option Value->Option Value->Option (Option Prop×Value)
 |none,none=>some (none,.string s)
 |some (.int _ j),none=>some (some (0<=j/\j<=(bl s).length),.string (bs (zO (bl s) j)))
 |none,some (.int _ hi)=>some (some (0<=hi/\hi<=(bl s).length),.string (bs (jy (bl s) hi)))
 |some (.int _ j),some (.int _ hi)=>some (some (0<=j/\j<=hi/\hi<=(bl s).length),.string (bs (Vc.sub (bl s) j hi)))
 |_,_=>none
def zoE(ev:Operand->Option Value):List Operand->Option (List Value)
 |[]=>some []
 |x::r=>match ev x,zoE ev r with
  |some v,some vs=>some (v::vs)
  |_,_=>none
def zrm(ev:Operand->Option Value):List (Nat×Operand)->Option (List (Nat×Value))
 |[]=>some []
 |(i,x)::r=>match ev x,zrm ev r with
  |some v,some vs=>some ((i,v)::vs)
  |_,_=>none
def qo:Value->Bool
 |.agg _|.tuple _=>false
 |_=>true
def WN(P:Program):List Field->Option (List (Nat×Nat))
 |[]=>some []
 |f::r=>match zK P f.type,WN P r with
  |some n,some j=>some ((f.offset,n)::j)
  |_,_=>none
def zbH(P:Program)(t:TypeId)(B:List (Nat×Value)):Option Value:=
 match P.info? t,P.underlying t with
 |some i,some (.struct H)=>
  match i.zero,WN P H.toList with
  |some z,some places=>match Instr.fill (fun j=>places[j]?) z.cells B with
   |some cells=>some (.agg cells)
   |none=>none
  |_,_=>none
 |some i,some (.array _ elem)=>
  match i.zero,zK P elem with
  |some z,some size=>match Instr.fill (fun j=>some (j*size,size)) z.cells B with
   |some cells=>some (.agg cells)
   |none=>none
  |_,_=>none
 |_,_=>none
def zI(P:Program)(m:Mode)(ev:Operand->Option Value)(op:Op):Option (Option Prop×Value):=
 match op with
 |.move x|.assign x=>match ev x with
  |some v=>some (none,v)
  |none=>none
 |.binOp op t x y _=>match ev x,ev y with
  |some O,some S=>match isK y,S with
   |true,.nilIface=>zsm P op t O
   |_,_=>zbI P m op t O S
  |_,_=>none
 |.unOp op _ x=>match op,ev x with
  |.not,some (.bool b)=>some (none,.bool (!b))
  |.neg,some (.int k n)=>some (m.int k (-n))
  |_,_=>none
 |.convert J dst x=>match P.underlying J,P.underlying dst,ev x with
  |some (.int _),some (.int k),some (.int _ n)=>some (m.int k n)
  |some .string,some .string,some (.string s)=>some (none,.string s)
  |_,_,_=>none
 |.extract x i=>match ev x with
  |some (.tuple vs)=>match vs.toList[i]? with
   |some v=>some (none,v)
   |none=>none
  |_=>none
 |.nilCheck x=>match ev x with
  |some (.pointer (some a))=>some (none,.pointer (some a))
  |some (.func (.func f) first cap)=>some (none,.func (.func f) first cap)
  |_=>none
 |.makeFunc fn first B=>match zoE ev first.toList,zoE ev B.toList with
  |some vs,some U=>some (none,.func fn vs.toArray U.toArray)
  |_,_=>none
 |.index t x i=>match P.underlying t,ev x,ev i with
  |some .string,some (.string s),some (.int _ n)=>some (some (0<=n/\n<(bl s).length),.int .u8 (byteAt (bl s) n))
  |some (.array len elem),some (.agg cs),some (.int _ n)=>match zK P elem with
   |some size=>match jg P elem cs.toList (n.toNat*size)with
    |some v=>some (some (0<=n/\n<(len:Int)),v)
    |none=>none
   |none=>none
  |_,_,_=>none
 |.slice t x Y hi Z=>match P.underlying t,ev x,zuV ev Y,zuV ev hi,Z with
  |some .string,some (.string s),some l,some h,none=>zlj s l h
  |_,_,_,_,_=>none
 |.fieldAddr s x f=>match P.underlying s,ev x with
  |some (.struct j),some (.pointer (some a))=>match j[f]? with
   |some I=>match zK P I.type with
    |some n=>if Nat.beq n 0 then none else some (none,.pointer (some (a.add I.offset)))
    |none=>none
   |none=>none
  |_,_=>none
 |.field t x f=>match P.underlying t,ev x with
  |some (.struct j),some (.agg cs)=>match j[f]? with
   |some I=>match jg P I.type cs.toList I.offset with
    |some v=>some (none,v)
    |none=>none
   |none=>none
  |_,_=>none
 |.indexAddr t x i=>match P.underlying t,ev x,ev i with
  |some (.slice elem),some (.slice (some a) len _),some (.int _ n)=>match zK P elem with
   |some size=>some (some (0<=n/\n<(len:Int)),.pointer (some (a.add (n.toNat*size))))
   |none=>none
  |some (.array len elem),some (.pointer (some a)),some (.int _ n)=>match zK P elem with
   |some size=>some (some (0<=n/\n<(len:Int)),.pointer (some (a.add (n.toNat*size))))
   |none=>none
  |_,_,_=>none
 |.build t H=>match zrm ev H.toList with
  |some ps=>match zbH P t ps with
   |some v=>some (none,v)
   |none=>none
  |none=>none
 |.call {callee:=.builtin .len,args,argTypes}=>match argTypes.toList,args.toList with
  |[t],[x]=>match P.underlying t,ev x with
   |some .string,some (.string s)=>some (none,.int .i64 ((bl s).length:Int))
   |some (.slice _),some (.slice _ n _)=>some (none,.int .i64 (n:Int))
   |some (.array n _),some _=>some (none,.int .i64 (n:Int))
   |_,_=>none
  |_,_=>none
 |_=>none
section
variable {P : Program}
theorem jx{t:TypeId}{n:Nat}{W:World}(h:zK P t=some n):(sizeOf t).run P W=.ok n W:=by
 unfold zK at h;split at h
 ·rename_i i hi;cases h;simp[sizeOf,typeInfo,hi]
 ·cases h
theorem zcQ(cs:Array Value)(off n:Nat):cs.extract off (off+n)=(List.take n (List.drop off cs.toList)).toArray:=by apply nW;simp[List.extract_eq_take_drop]
theorem JY{t:TypeId}{cs:Array Value}{off:Nat}{v:Value}{W:World}(h:jg P t cs.toList off=some v):(part t cs off).run P W=.ok v W:=by
 unfold jg at h;split at h
 ·rename_i n ha H;cases h;unfold zB at ha;have I:=jx (W:=W) H;split at ha
  ·rename_i j;simp[part,isAgg,run_underlying j,I,zcQ]
  ·rename_i j;simp[part,isAgg,run_underlying j,I,zcQ]
  ·cases ha
  ·cases ha
 ·rename_i n ha H;unfold zB at ha;split at ha
  ·cases ha
  ·cases ha
  ·rename_i d S J j;have O:cs[off]? =some v:=by simpa using h
   have B:(isAgg t).run P W=.ok false W:=by simp only[isAgg,Sem.run_bind,run_underlying j,Result.andThen_ok];cases d<;>simp_all
   simp[part,B,O]
  ·cases ha
 ·cases h
theorem zn9(d D:Nat)(f:TypeId->Value->Value->Option Bool)(W:World)
  (hf:∀t x y r,f t x y=some r->(Op.equalIn D t x y).run P W=.ok r W) (xs ys:Array Value):∀(l:List Field)(r:Bool),
  YJ P f xs.toList ys.toList l=some r->(Op.eqFields D xs ys l).run P W=.ok r W
 |[],r,h=>by simp[YJ]at h;subst h;simp[Op.eqFields]
 |[g],r,h=>by
  simp only[YJ]at h;split at h
  ·cases h
  ·rename_i hn;have hn':g.name≠ "_" :=by simpa using hn
   split at h
   ·rename_i a b ha hb;simp only[Op.eqFields,ne_eq,hn',not_false_eq_true,if_true,Sem.run_bind,JY ha,JY hb,Result.andThen_ok,hf _ _ _ _ h];cases r<;>simp
   ·cases h
 |g::g'::l,r,h=>by
  rw[YJ]at h;case x_1=>intro hh;cases hh
  split at h
  ·cases h
  ·rename_i hn;have hn':g.name≠ "_" :=by simpa using hn
   split at h
   ·rename_i a b ha hb;split at h
    ·rename_i c r' hc hr;cases h;have ih:=zn9 d D f W hf xs ys (g'::l) r' hr;rw[Op.eqFields];simp only[ne_eq,hn',not_false_eq_true,if_true,Sem.run_bind,JY ha,JY hb,Result.andThen_ok,hf _ _ _ _ hc];cases c
     ·simp
     ·simp[ih]
    ·cases h
   ·cases h
theorem zdx:∀(d D:Nat)(t:TypeId)(x y:Value)(r:Bool)(W:World),d<=D->yu P d t x y=some r->(Op.equalIn D t x y).run P W=.ok r W
 |0,_,_,_,_,_,_,_,h=>by simp[yu]at h
 |d+1,0,_,_,_,_,_,hD,_=>oM
 |d+1,D+1,t,x,y,r,W,hD,h=>by
  simp only[yu]at h;split at h
  ·rename_i j;cases h;exact run_equalIn_bool W D t _ _ j
  ·rename_i j;split at h
   ·rename_i hk;cases h;have:=of_decide_eq_true hk;subst this;exact run_equalIn_int W D t _ _ _ _ j
   ·cases h
  ·rename_i j;cases h;rw[run_equalIn_string W D t _ _ j,ByteArray.toList_eq,ByteArray.toList_eq];rfl
  ·rename_i fs xs H j;split at h
   ·cases h
   ·rename_i J;have B:P.fieldsOf t=fs:=by simp[Program.fieldsOf,j]
    rw[run_equalIn_struct W D t xs H (by rw[B];exact j) (by simpa using J),B];exact zn9 d D _ W (fun t x y r I=>zdx d D t x y r W oM I) xs H _ _ h
  ·cases h
theorem zfg(W:World)(D:Nat)(t e:TypeId)(a:Option Addr)(n c B H:Nat)(j:P.underlying t=some (.slice e)):
  (Op.equalIn (D+1) t (.slice a n c) (.slice none B H)).run P W=.ok a.isNone W:=by
 cases a<;>simp[Op.equalIn,run_underlying j]
theorem zwH{m:Mode}{op:BinOp}{t:TypeId}{vx Z:Value}{c:Option Prop}{v:Value}(h:zbI P m op t vx Z=some (c,v))(hc:jA c)
  (x y:Operand) (W:World):
  (do eqGuard op t x y vx Z;binOp op t vx Z).run P W=.ok v W:=by
 unfold zbI at h;split at h
 ·rename_i k a B b;have I:∀o:BinOp,o=.shl\/o=.shr->(eqGuard o t x y (.int k a) (.int B b)).run P W=.ok () W:=by intro o ho;rcases ho with rfl|rfl<;>(unfold eqGuard;split<;>simp_all)
  split at h
  ·simp only[Option.some.injEq,Prod.mk.injEq]at h;obtain⟨rfl,rfl⟩:=h;rw[Sem.run_bind,I .shl (.inl rfl),Result.andThen_ok];show(Op.shift .shl k a B b).run P W=_;rw[shift_shl k B a b hc.1 hc.2];rfl
  ·simp only[Option.some.injEq,Prod.mk.injEq]at h;obtain⟨rfl,rfl⟩:=h;rw[Sem.run_bind,I .shr (.inr rfl),Result.andThen_ok];show(Op.shift .shr k a B b).run P W=_;rw[shift_shr k B a b hc.1 hc.2];rfl
  split at h
  ·rename_i hk;obtain rfl:k=B:=by simpa[kEq]using hk
   have j:(eqGuard op t x y (.int k a) (.int k b)).run P W=.ok () W:=by unfold eqGuard;split<;>simp_all
   rw[Sem.run_bind,j,Result.andThen_ok];cases op<;>simp only[zpY,Option.some.injEq,Prod.mk.injEq,reduceCtorEq]at h;case add=>have:=m.int_val k (a+b) h hc;subst this;simp[binOp,Op.intArith]
   case sub=>have:=m.int_val k (a-b) h hc;subst this;simp[binOp,Op.intArith]
   case mul=>have:=m.int_val k (a*b) h hc;subst this;simp[binOp,Op.intArith]
   case quo=>
    obtain⟨rfl,rfl⟩:=h;obtain⟨S,h2,h3⟩:=hc;have J:¬b=0:=oM
    have hd:a.tdiv b=a/b:=Int.tdiv_eq_ediv_of_nonneg S;simp[binOp,Op.intDiv,J,hd,zbT h3]
   case rem=>
    obtain⟨rfl,rfl⟩:=h;obtain⟨S,h2⟩:=hc;have J:¬b=0:=oM
    have hd:a.tmod b=a%b:=Int.tmod_eq_emod_of_nonneg S;simp[binOp,Op.intDiv,J,hd]
   case and=>obtain⟨rfl,rfl⟩:=h;simp[binOp,intBits_and]
   case or=>obtain⟨rfl,rfl⟩:=h;simp[binOp,intBits_or]
   case xor=>obtain⟨rfl,rfl⟩:=h;simp[binOp,intBits_xor]
   all_goals (obtain⟨rfl,rfl⟩:=h;simp[binOp,Op.intCmp])
  ·cases h
 ·rename_i a b;have j:(eqGuard op t x y (.string a) (.string b)).run P W=.ok () W:=by unfold eqGuard;split<;>simp_all
  rw[Sem.run_bind,j,Result.andThen_ok];have e1:a.toList=bl a:=ByteArray.toList_eq a;have e2:b.toList=bl b:=ByteArray.toList_eq b;cases op<;>simp only[zsr,Option.some.injEq,Prod.mk.injEq,reduceCtorEq]at h;case add=>
   obtain⟨rfl,rfl⟩:=h;have hc':(bl a).length+(bl b).length<=9223372036854775807:=hc;have J:¬(((a.size+b.size:Nat):Int)>IntKind.i64.max):=by have:IntKind.i64.max=9223372036854775807:=rfl;rw[this,jt,jt];omega
   simp only[binOp,Op.stringOp,J,if_false,zvT];simp
  all_goals (obtain⟨rfl,rfl⟩:=h;simp[binOp,Op.stringOp,e1,e2])
 ·rename_i a b;split at h
  ·rename_i O;have j:(eqGuard op t x y (.bool a) (.bool b)).run P W=.ok () W:=by unfold eqGuard;split<;>simp_all
   rw[Sem.run_bind,j,Result.andThen_ok];cases op<;>simp only[zst,Option.some.injEq,Prod.mk.injEq,reduceCtorEq]at h;case eql=>obtain⟨rfl,rfl⟩:=h;exact run_eql_bool W t a b O
   case neq=>obtain⟨rfl,rfl⟩:=h;exact run_neq_bool W t a b O
  ·cases h
 ·rename_i xs ys;split at h
  ·cases h
  ·rename_i hg0;have j:(eqGuard op t x y (.agg xs) (.agg ys)).run P W=.ok () W:=by
    have hgt:P.eqGuardType P.depth t=false:=by simpa using hg0
    cases op<;>simp[eqGuard,hgt]
   rw[Sem.run_bind,j,Result.andThen_ok];cases op<;>simp only[reduceCtorEq]at h;case eql=>
    split at h
    ·rename_i r U;simp only[Option.some.injEq,Prod.mk.injEq]at h;obtain⟨rfl,rfl⟩:=h;have H:(Op.equalIn 10000 t (.agg xs) (.agg ys)).run P W=.ok r W:=zdx 8 10000 t _ _ r W oM U;rw[run_eql_struct,H];rfl
    ·cases h
   case neq=>
    split at h
    ·rename_i r U;simp only[Option.some.injEq,Prod.mk.injEq]at h;obtain⟨rfl,rfl⟩:=h;have H:(Op.equalIn 10000 t (.agg xs) (.agg ys)).run P W=.ok r W:=zdx 8 10000 t _ _ r W oM U;rw[run_neq_struct,H];rfl
    ·cases h
 ·rename_i a n c n' Y;have j:(eqGuard op t x y (.slice a n c) (.slice none n' Y)).run P W=.ok () W:=by unfold eqGuard;split<;>simp_all
  rw[Sem.run_bind,j,Result.andThen_ok];split at h
  ·rename_i e O;have H:(Op.equal t (.slice a n c) (.slice none n' Y)).run P W=.ok a.isNone W:=zfg W 9999 t e a n c n' Y O;split at h
   ·cases h;simp[binOp,H]
   ·cases h;simp[binOp,H]
   ·cases h
  ·cases h
 ·cases h
theorem Ve(W:World)(D:Nat)(t:TypeId)(B:Array (String×TypeId))(j:P.underlying t=some (.interface B)):(Op.equalIn (D+1) t .nilIface .nilIface).run P W=.ok true W:=by simp[Op.equalIn,run_underlying j]
theorem Vf(W:World)(D:Nat)(t:TypeId)(B:Array (String×TypeId))(a:TypeId)(b:Value)(j:P.underlying t=some (.interface B)):(Op.equalIn (D+1) t (.iface a b) .nilIface).run P W=.ok false W:=by simp[Op.equalIn,run_underlying j]
theorem zwI{op:BinOp}{t:TypeId}{H:Value}{c:Option Prop}{v:Value}(h:zsm P op t H=some (c,v)){y:Operand}(I:isK y=true)(x:Operand)(W:World):
  (do eqGuard op t x y H .nilIface;binOp op t H .nilIface).run P W=.ok v W:=by
 have hk:∃u,y=.const u:=by cases y<;>first|exact⟨_,rfl⟩|cases I
 obtain⟨u,rfl⟩:=hk;unfold zsm at h;split at h<;>cases h
 ·rename_i j;have B:(Op.equal t .nilIface .nilIface).run P W=.ok true W:=by exact Ve W 9999 t _ j
  simp[eqGuard,binOp,B]
 ·rename_i j;have B:(Op.equal t .nilIface .nilIface).run P W=.ok true W:=by exact Ve W 9999 t _ j
  simp[eqGuard,binOp,B]
 ·rename_i a b j;have B:(Op.equal t (.iface a b) .nilIface).run P W=.ok false W:=by exact Vf W 9999 t _ a b j
  simp[eqGuard,binOp,B]
 ·rename_i a b j;have B:(Op.equal t (.iface a b) .nilIface).run P W=.ok false W:=by exact Vf W 9999 t _ a b j
  simp[eqGuard,binOp,B]
theorem zmg{ev:Operand->Option Value}{ρ:Operand->Value}:∀(l:List Operand)(vs:List Value),(∀x∈l,∀v,ev x=some v->ρ x=v)->
  zoE ev l=some vs->l.map ρ=vs
 |[],vs,_,h=>by simp[zoE]at h;simp[h]
 |x::r,vs,hρ,h=>by
  simp only[zoE]at h;split at h
  ·rename_i v j hv B;cases h;rw[uAh,hρ x sI v hv,zmg r j (fun y H=>hρ y (by simp[H])) B]
  ·cases h
theorem ztH{ev:Operand->Option Value}{ρ:Operand->Value}:∀(l:List (Nat×Operand))(vs:List (Nat×Value)),(∀x∈l,∀v,ev x.2=some v->ρ x.2=v)->
  zrm ev l=some vs->l.map (fun p=>(p.1,ρ p.2))=vs
 |[],vs,_,h=>by simp[zrm]at h;simp[h]
 |(i,x)::r,vs,hρ,h=>by
  simp only[zrm]at h;split at h
  ·rename_i v j hv B;cases h;rw[uAh,hρ (i,x) sI v hv,ztH r j (fun y H=>hρ y (by simp[H])) B]
  ·cases h
theorem zew(W:World):∀(l:List Field)(j:List (Nat×Nat)),WN P l=some j->
  (l.mapM fun f=>do pure (f.offset,<-sizeOf f.type):Sem (List (Nat×Nat))).run P W=.ok j W
 |[],j,h=>by simp[WN]at h;subst h;simp
 |f::r,j,h=>by
  simp only[WN]at h;split at h
  ·rename_i n B H I;cases h;have J:=zew W r B I;rw[List.mapM_cons,Sem.run_bind,Sem.run_bind,jx H,Result.andThen_ok];show(Sem.run P (List.mapM _ r>>=_) W)=_;rw[Sem.run_bind,J,Result.andThen_ok];rfl
  ·cases h
theorem zn8{ev:Operand->Option Value}{ρ:Operand->Value}{x:Option Operand}{v:Option Value}(h:zuV ev x=some v)
  (j:∀y,x=some y->∀u,ev y=some u->ρ y=u):x.map ρ=v:=by
 cases x with
 |none=>simp[zuV]at h;simp[h]
 |some y=>
  simp only[zuV]at h;split at h
  ·rename_i u B;cases h;simp[j y rfl u B]
  ·cases h
theorem zsj(s:ByteArray){n:Int}(I:0<=n)(H:n<(bl s).length):s[n.toNat]? =some ((bl s).getD n.toNat 0):=by
 have j:n.toNat<(bl s).length:=oM
 have B:n.toNat<s.size:=by rw[jt];exact j
 rw[ByteArray.getElem?_lt' s _ B];have:(bl s).getD n.toNat 0=(bl s)[n.toNat]:=by rw[mN,mJ j];rfl
 rw[this];rfl
theorem Zf{k:IntKind}{i:Int}{y:Nat}{j:BoundsCode}{W:World}(h:0<=i/\i<=y):
  (Instr.sliceBound (.int k i) y j).run P W=.ok i.toNat W:=by
 simp[Instr.sliceBound,asIntOf,h]
theorem zbw(s:ByteArray)(a b:Nat):s.extract a b=bs ((bl s).take b|>.drop a):=by have h:=ByteArray.extract_mk (bl s) a b;have e:(ByteArray.mk (bl s).toArray)=s:=rfl;rw[e]at h;rw[h,List.drop_take];rfl
theorem zqE{t:TypeId}{s:ByteArray}{l h:Option Value}{c:Option Prop}{v:Value}{W:World}(J:P.underlying t=some .string)
  (H:zlj s l h=some (c,v)) (hc:jA c):(Instr.sliceAt t (.string s) l h none).run P W=.ok v W:=by
 have j:=jt s;unfold zlj at H;split at H
 ·cases H;simp[Instr.sliceAt,Instr.slice,Instr.sliceBounds,run_underlying J]
 ·cases H;rename_i k B;have hc:0<=B/\B<=((bl s).length:Int):=hc;have I:(Instr.sliceBound (.int k B) s.size .sliceB).run P W=.ok B.toNat W:=Zf (by rw[j];exact hc);rw[j]at I;simp[Instr.sliceAt,Instr.slice,Instr.sliceBounds,run_underlying J,I,zbw,zO,j]
 ·cases H;rename_i k hi;have hc:0<=hi/\hi<=((bl s).length:Int):=hc;have I:(Instr.sliceBound (.int k hi) s.size .sliceAlen).run P W=.ok hi.toNat W:=Zf (by rw[j];exact hc);simp[Instr.sliceAt,Instr.slice,Instr.sliceBounds,run_underlying J,I,zbw,jy]
 ·cases H;rename_i k B S hi;obtain⟨Y,I,Z⟩:0<=B/\B<=hi/\hi<=((bl s).length:Int):=hc;have O:(Instr.sliceBound (.int S hi) s.size .sliceAlen).run P W=.ok hi.toNat W:=Zf (by rw[j];omega);have U:(Instr.sliceBound (.int k B) hi.toNat .sliceB).run P W=.ok B.toNat W:=Zf oM;simp[Instr.sliceAt,Instr.slice,Instr.sliceBounds,run_underlying J,O,U,zbw,Vc.sub]
 ·cases H
theorem zqF{t:TypeId}{j:Array (Nat×Value)}{v:Value}{W:World}(h:zbH P t j.toList=some v):
  (Instr.build t j).run P W=.ok v W:=by
 unfold zbH at h;split at h
 ·rename_i i B hi I;split at h
  ·rename_i z places J hp;split at h
   ·rename_i cells O;cases h;have U:=zew W _ _ hp;have S:(B.mapM fun f=>do pure (f.offset,<-sizeOf f.type):Sem (Array (Nat×Nat))).run P W=.ok places.toArray W:=by rw[Array.mapM_eq_mapM_toList];simp only[map_eq_pure_bind];rw[Sem.run_bind,U];rfl
    have H:(zeroValue t).run P W=.ok z W:=by simp[zeroValue,typeInfo,hi,J]
    simp only[Instr.build,Sem.run_bind,H,Result.andThen_ok,run_underlying I,S];simp[O]
   ·cases h
  ·cases h
 ·rename_i i n elem hi I;split at h
  ·rename_i z size J hp;split at h
   ·rename_i cells O;cases h;have H:(zeroValue t).run P W=.ok z W:=by simp[zeroValue,typeInfo,hi,J]
    simp only[Instr.build,Sem.run_bind,H,Result.andThen_ok,run_underlying I,jx hp];simp[O]
   ·cases h
  ·cases h
 ·cases h
theorem zhi{m:Mode}{ev:Operand->Option Value}{ρ:Operand->Value}{o:Oper}{c:Option Prop}{v:Value}
  (h:zI P m ev o.op=some (c,v)) (hc:jA c) (B:∀x∈o.op.operands,∀u,ev x=some u->ρ x=u) (W:World):
  (execOp ρ o).run P W=.ok (.value v) W:=by
 obtain⟨dst,op,type,pos,after,guard⟩:=o;simp only at h B;unfold zI at h;split at h
 ·rename_i x;split at h
  ·rename_i u S;cases h;simp[execOp,B x (by simp[Op.operands]) _ S]
  ·cases h
 ·rename_i x;split at h
  ·rename_i u S;cases h;simp[execOp,B x (by simp[Op.operands]) _ S]
  ·cases h
 ·rename_i op t x y yt;split at h
  ·rename_i vx vy j Z;split at h
   ·rename_i hk;have:=zwI h hk x W;simp only[execOp,B x (by simp[Op.operands]) _ j,B y (by simp[Op.operands]) _ Z];rw[Sem.run_bind,this];rfl
   ·have:=zwH h hc x y W;simp only[execOp,B x (by simp[Op.operands]) _ j,B y (by simp[Op.operands]) _ Z];rw[Sem.run_bind,this];rfl
  ·cases h
 ·rename_i op t x;split at h
  ·rename_i b j;cases h;simp[execOp,Op.unary,B x (by simp[Op.operands]) _ j]
  ·rename_i k n j;simp only[Option.some.injEq]at h;have:=m.int_val k (-n) h hc;subst this;simp[execOp,Op.unary,Op.intArith,B x (by simp[Op.operands]) _ j]
  ·cases h
 ·rename_i src dst' x;split at h
  ·rename_i k0 k k1 n H h2 j;simp only[Option.some.injEq]at h;have:=m.int_val k n h hc;subst this;simp[execOp,convert,Conv.intToInt,run_underlying H,run_underlying h2,B x (by simp[Op.operands]) _ j]
  ·rename_i s H h2 j;cases h;simp[execOp,convert,run_underlying H,run_underlying h2,B x (by simp[Op.operands]) _ j]
  ·cases h
 ·rename_i x i;split at h
  ·rename_i vs j;split at h
   ·rename_i u S;cases h;have hu':vs[i]? =some v:=by simpa using S
    simp[execOp,Instr.extract,B x (by simp[Op.operands]) _ j,hu']
   ·cases h
  ·cases h
 ·rename_i x;split at h
  ·rename_i a j;cases h;simp[execOp,B x (by simp[Op.operands]) _ j]
  ·rename_i f first cap j;cases h;simp[execOp,B x (by simp[Op.operands]) _ j]
  ·cases h
 ·rename_i fn first I
  split at h
  ·rename_i vs us H h2;cases h;have e1:=zmg first.toList vs (fun x j=>B x (by simp[Op.operands];exact .inl (by simpa using j))) H
   have e2:=zmg I.toList us (fun x j=>B x (by simp[Op.operands];exact .inr (by simpa using j))) h2;have e1':first.map ρ=vs.toArray:=by apply nW;simpa using e1
   have e2':I.map ρ=us.toArray:=by apply nW;simpa using e2
   simp[execOp,Instr.makeFunc,e1',e2']
  ·cases h
 ·rename_i t x i;split at h
  ·rename_i s k n H j hi;cases h;have hc:0<=n/\n<((bl s).length:Int):=hc;have hb:=zsj s hc.1 hc.2;simp[execOp,Instr.index,asIntOf,run_underlying H,B x (by simp[Op.operands]) _ j,B i (by simp[Op.operands]) _ hi,hc.1,hb,byteAt]
  ·rename_i len elem cs k n H j hi;split at h
   ·rename_i size hs;split at h
    ·rename_i u S;cases h;have hc:0<=n/\n<(len:Int):=hc;simp[execOp,Instr.index,asIntOf,run_underlying H,B x (by simp[Op.operands]) _ j,B i (by simp[Op.operands]) _ hi,hc,jx hs,JY S]
    ·cases h
   ·cases h
  ·cases h
 ·rename_i t x lo hi mx;split at h
  ·rename_i s l h' H j hl hh;have el:=zn8 hl (ρ:=ρ) (fun y Z=>B y (by simp[Op.operands,Z]));have eh:=zn8 hh (ρ:=ρ) (fun y Z=>B y (by simp[Op.operands,Z]));have:=zqE (W:=W) H h hc;simp[execOp,el,eh,B x (by simp[Op.operands]) _ j,this]
  ·cases h
 ·rename_i s x f;split at h
  ·rename_i U a H j;split at h
   ·rename_i fd Y;split at h
    ·rename_i n hn;split at h
     ·cases h
     ·rename_i hne;cases h;have hne':¬n=0:=by simpa using hne
      simp[execOp,Instr.fieldAt,Instr.sureAddr,fieldPlace,run_underlying H,B x (by simp[Op.operands]) _ j,Y,jx hn,hne']
    ·cases h
   ·cases h
  ·cases h
 ·rename_i t x f;split at h
  ·rename_i U cs H j;split at h
   ·rename_i fd Y;split at h
    ·rename_i u S;cases h;simp[execOp,Instr.field,asAgg,run_underlying H,B x (by simp[Op.operands]) _ j,Y,JY S]
    ·cases h
   ·cases h
  ·cases h
 ·rename_i t x i;split at h
  ·rename_i elem a len cap k n H j hi;split at h
   ·rename_i size hs;cases h;have hc:0<=n/\n<(len:Int):=hc;simp[execOp,Instr.indexAt,asIntOf,run_underlying H,B x (by simp[Op.operands]) _ j,B i (by simp[Op.operands]) _ hi,hc,jx hs]
   ·cases h
  ·rename_i len elem a k n H j hi;split at h
   ·rename_i size hs;cases h;have hc:0<=n/\n<(len:Int):=hc;simp[execOp,Instr.indexAt,Instr.sureAddr,asIntOf,run_underlying H,B x (by simp[Op.operands]) _ j,B i (by simp[Op.operands]) _ hi,hc,jx hs]
   ·cases h
  ·cases h
 ·rename_i t O;split at h
  ·rename_i ps hps;split at h
   ·rename_i u S;cases h;have e:=ztH O.toList ps (fun x j=>B x.2 (by simp[Op.operands];exact⟨x.1,by simpa using j⟩)) hps;have hb:zbH P t (O.map fun p=>(p.1,ρ p.2)).toList=some v:=by rw[Array.toList_map,e];exact S
    have:=zqF (W:=W) hb;simp only[execOp,Sem.run_bind,this,Result.andThen_ok];rfl
   ·cases h
  ·cases h
 ·rename_i args J;split at h
  ·rename_i t x ht hx';have hta:J= #[t]:=by apply nW;simpa using ht
   have hxa:args= #[x]:=by apply nW;simpa using hx'
   subst hta hxa;split at h
   ·rename_i s H j;cases h;simp[execOp,resolve,invoke,builtin,Builtin.len_,goInt,run_underlying H,B x (by simp[Op.operands,Call.operands]) _ j,jt]
   ·rename_i e a n cap H j;cases h;simp[execOp,resolve,invoke,builtin,Builtin.len_,goInt,run_underlying H,B x (by simp[Op.operands,Call.operands]) _ j]
   ·rename_i n e u H j;cases h;simp[execOp,resolve,invoke,builtin,Builtin.len_,goInt,run_underlying H]
   ·cases h
  ·cases h
 ·cases h
end
end
inductive Hint where
 |auto (m:Mode)
 |mem (e:Nat)
 |call (v:Value) (st:List Nat) (eff:Option (Nat×Obj))
 |callO (v:Value) (st:List Nat) (eff:Option (Nat×Obj))
 |callP (Φ:Value->World->Prop) (st:List Nat)
 |callQ (v:Value) (st:List Nat)
structure OpR where
 path:List (Nat×Bool)
 val:Value
 eff:Option (Nat×Obj)
 pr:Option (Value->World->Prop):=none
structure RCtx where
 P:Program
 X:List Nat
 w0:World
 ws:World
 Y:List Nat
 ops:List Oper
 L:List (Nat×Value)
 H:List HB
 hints:List (Nat×Hint)
def zDQ:List (Nat×Hint)->Nat->Hint
 |[],_=>.auto .exact
 |(j,h)::r,i=>match Nat.beq j i with
  |true=>h
  |false=>zDQ r i
def wrFrom:List Oper->Nat->Nat->Option Nat
 |[],_,_=>none
 |o::r,i,t=>match o.dst with
  |some d=>match Nat.beq d t with
   |true=>some i
   |false=>wrFrom r (i+1) t
  |none=>wrFrom r (i+1) t
def gB(j:List OpR)(g:Nat):Bool:=
 match j[g]? with
 |some r=>match r.val with
  |.bool b=>b
  |_=>false
 |none=>false
def zCz(j:List OpR):List (Nat×Bool)->Bool
 |[]=>true
 |(g,w)::r=>(gB j g==w)&&zCz j r
def okV:Value⊕(Value->World->Prop)->Value->World->Prop
 |.inl u,v,_=>v=u
 |.inr Φ,v,W=>Φ v W
def Z2(P:Program)(g:Nat):Bool:=
 match P.funcs[g]? with
 |some fn=>!(fn.name== "runtime.NumGoroutine")&&fn.body.isSome
 |none=>false
theorem jk{P:Program}{g:Nat}(h:Z2 P g=true):Proofs.Enters P g:=by
 unfold Z2 at h;split at h
 ·rename_i fn j;simp only[mF,Bool.not_eq_true']at h;obtain⟨c,hc⟩:=Option.isSome_iff_exists.1 h.2;exact Proofs.enters_of j h.1 hc
 ·cases h
def edgesOf(o:Oper):List Nat:=o.after.toList.filterMap fun e=>if Region.binds .any e then some e.on else none
def zgP:List Oper->List (List Nat)->List (List Nat)
 |[],acc=>acc
 |o::r,acc=>zgP r (acc++[((edgesOf o).flatMap fun e=>e::(match acc[e]? with|some l=>l|none=>[])).eraseDups])
def beforeOf(j:Bool)(ops:List Oper):List (List Nat):=if j then zgP ops []else(List.range ops.length).map List.range
def memN(x:Nat)(l:List Nat):Bool:=l.any (Nat.beq x)
end Go.Vc
