/-
  A part of the proof of the laws.
-/
import Derived.Orders
import Derived.Below
import Derived.Laws.Strings
import Derived.Laws.Strings2
import Derived.Laws.StructEq
import Derived.Laws.Small
import Derived.Laws.Entries
import Derived.Laws.Build
import Derived.WalkKit
import Derived.Shelf.Abstract
import Derived.Laws.CopyRow
section
namespace Go.Vc
open Go Go.RowKit
def bs(l:List UInt8):ByteArray:=⟨l.toArray⟩
def bl(s:ByteArray):List UInt8:=s.data.toList
theorem Yw(l:List UInt8):bl (bs l)=l:=rfl
theorem zxV(s:ByteArray):bs (bl s)=s:=rfl
theorem jc(s:ByteArray):s.size=(bl s).length:=(Array.length_toList (xs:=s.data)).symm
theorem znM(a b:ByteArray):a++b=bs (bl a++bl b):=by apply ByteArray.ext;simp[bs,bl]
theorem zxn{a b:List UInt8}(h:bs a=bs b):a=b:=by have:=congrArg bl h;simpa[Yw]using this
def byteAt(l:List UInt8)(i:Int):Int:=((l.getD i.toNat 0).toNat:Int)
def sub(l:List UInt8)(lo hi:Int):List UInt8:=(l.take hi.toNat).drop lo.toNat
def Qi(l:List UInt8)(lo:Int):List UInt8:=l.drop lo.toNat
def Zt(l:List UInt8)(hi:Int):List UInt8:=l.take hi.toNat
def inK(k:IntKind)(n:Int):Prop:=k.min≤n∧n≤k.max
theorem zhX{k:IntKind}{n:Int}(h:inK k n):k.wrap n=n:=by obtain⟨h1,h2⟩:=h;cases k<;>simp[IntKind.min,IntKind.max,IntKind.wrap,IntKind.signed,IntKind.bits]at h1 h2⊢ <;>omega
structure Keeps(X:List Nat)(w w':World):Prop where
 os:w'.os=w.os
 tape:w'.tape=w.tape
 output:w'.output=w.output
 size:w.heap.size≤w'.heap.size
 block:∀k,k<w.heap.size→k∉X→w'.heap[k]? =w.heap[k]?
theorem Keeps.refl(X:List Nat)(w:World):Keeps X w w:=⟨rfl,rfl,rfl,Nat.le_refl _,fun _ _ _=>rfl⟩
theorem Keeps.trans{X:List Nat}{a b c:World}(h:Keeps X a b)(k:Keeps X b c):Keeps X a c:=
 ⟨k.os.trans h.os,k.tape.trans h.tape,k.output.trans h.output,Nat.le_trans h.size k.size,
  fun i hi hx=>(k.block i (Nat.lt_of_lt_of_le hi h.size) hx).trans (h.block i hi hx)⟩
theorem Keeps.mono{X Y:List Nat}{w w':World}(h:Keeps X w w')(hs:∀k,k<w.heap.size→k∈X→k∈Y):Keeps Y w w':=
 ⟨h.os,h.tape,h.output,h.size,fun k hk hx=>h.block k hk fun hm=>hx (hs k hk hm)⟩
theorem Keeps.wide{X:List Nat}{w w':World}(h:Keeps [] w w'):Keeps X w w':=h.mono fun _ _ hm=>by cases hm
theorem Keeps.below{w w':World}(h:Keeps [] w w'):Below w.heap.size w w':=
 ⟨h.os,h.tape,h.output,h.size,fun k hk=>h.block k hk (by simp)⟩
theorem Keeps.of_below{w w':World}(h:Below w.heap.size w w'):Keeps [] w w':=
 ⟨h.os,h.tape,h.output,h.size,fun k hk _=>h.block k hk⟩
theorem Keeps.drawn{X:List Nat}(w:World)(n:Nat):Keeps X w {w with drawn:=n}:=⟨rfl,rfl,rfl,Nat.le_refl _,fun _ _ _=>rfl⟩
structure HB where
 b:Nat
 o:Obj
 wr:Bool
theorem zL{w:World}{b:Nat}{o:Obj}(h:w.heap[b]? =some o):b<w.heap.size:=by
 rcases Nat.lt_or_ge b w.heap.size with h'|h'
 ·exact h'
 ·simp[Array.getElem?_eq_none h']at h
def look:List (Nat×Value)→Nat→Option Value
 |[],_=>none
 |(s,v)::r,t=>match Nat.beq s t with
  |true=>some v
  |false=>look r t
def subL(L:List (Nat×Value)):List (Nat×Value)→Prop
 |[]=>True
 |(t,v)::r=>look L t=some v∧subL L r
inductive Mode where
 |exact|wrap
def Mode.int(m:Mode)(k:IntKind)(n:Int):Option Prop×Value:=
 match m with
 |.exact=>(some (inK k n),.int k n)
 |.wrap=>(none,.int k (k.wrap n))
def jg:Option Prop→Prop
 |none=>True
 |some c=>c
theorem Mode.int_val(m:Mode)(k:IntKind)(n:Int){c:Option Prop}{v:Value}(h:m.int k n=(c,v))(hc:jg c):Value.int k (k.wrap n)=v:=by
 cases m<;>simp only[Mode.int,Prod.mk.injEq]at h<;>obtain⟨rfl,rfl⟩:=h
 ·rw[zhX hc]
 ·rfl
def kEq(a b:IntKind):Bool:=decide (a=b)
def zjr(m:Mode)(op:BinOp)(k:IntKind)(a b:Int):Option (Option Prop×Value):=
 match op with
 |.add=>some (m.int k (a+b))
 |.sub=>some (m.int k (a-b))
 |.mul=>some (m.int k (a*b))
 |.quo=>some (some (0≤a∧0<b∧inK k (a/b)),.int k (a/b))
 |.rem=>some (some (0≤a∧0<b),.int k (a%b))
 |.eql=>some (none,.bool (a==b))
 |.neq=>some (none,.bool (a !=b))
 |.lss=>some (none,.bool (decide (a<b)))
 |.leq=>some (none,.bool (decide (a≤b)))
 |.gtr=>some (none,.bool (decide (b<a)))
 |.geq=>some (none,.bool (decide (b≤a)))
 |.and=>some (none,.int k (bits .and k a b))
 |.or=>some (none,.int k (bits .or k a b))
 |.xor=>some (none,.int k (bits .xor k a b))
 |_=>none
def zld(op:BinOp)(a b:List UInt8):Option (Option Prop×Value):=
 match op with
 |.add=>some (some (a.length+b.length≤9223372036854775807),.string (bs (a++b)))
 |.eql=>some (none,.bool (a==b))
 |.neq=>some (none,.bool (!(a==b)))
 |.lss=>some (none,.bool (Op.bytesLess a b))
 |.leq=>some (none,.bool (Op.bytesLess a b||a==b))
 |.gtr=>some (none,.bool (!(Op.bytesLess a b||a==b)))
 |.geq=>some (none,.bool (!(Op.bytesLess a b)))
 |_=>none
def zle(op:BinOp)(a b:Bool):Option (Option Prop×Value):=
 match op with
 |.eql=>some (none,.bool (a==b))
 |.neq=>some (none,.bool (!(a==b)))
 |_=>none
end Go.Vc
end
section
namespace Go.Vc
open Go Go.RowKit
def zw(P:Program)(t:TypeId):Option Bool:=
 match P.underlying t with
 |some (.struct _)=>some true
 |some (.array _ _)=>some true
 |some _=>some false
 |none=>none
def zx(P:Program)(t:TypeId):Option Nat:=
 match P.info? t with
 |some i=>some i.size
 |none=>none
def zT(P:Program)(t:TypeId)(cs:List Value)(off:Nat):Option Value:=
 match zw P t,zx P t with
 |some true,some n=>some (.agg ((cs.drop off).take n).toArray)
 |some false,some _=>cs[off]?
 |_,_=>none
def ZF(P:Program)(f:TypeId→Value→Value→Option Bool)(xs ys:List Value):List Field→Option Bool
 |[]=>some true
 |[g]=>
  if g.name== "_" then none else
  match zT P g.type xs g.offset,zT P g.type ys g.offset with
  |some a,some b=>f g.type a b
  |_,_=>none
 |g::r=>
  if g.name== "_" then none else
  match zT P g.type xs g.offset,zT P g.type ys g.offset with
  |some a,some b=>match f g.type a b,ZF P f xs ys r with
   |some c,some r'=>some (c&&r')
   |_,_=>none
  |_,_=>none
def j5(P:Program):Nat→TypeId→Value→Value→Option Bool
 |0,_,_,_=>none
 |d+1,t,x,y=>
  match P.underlying t,x,y with
  |some .bool,.bool a,.bool b=>some (a==b)
  |some (.int _),.int k a,.int k' b=>if kEq k k' then some (a==b)else none
  |some .string,.string a,.string b=>some (bl a==bl b)
  |some (.struct fs),.agg xs,.agg ys=>if P.stoodInHeld t then none else ZF P (j5 P d) xs.toList ys.toList fs.toList
  |_,_,_=>none
def XT(P:Program)(m:Mode)(op:BinOp)(t:TypeId)(vx vy:Value):Option (Option Prop×Value):=
 match vx,vy with
 |.int k a,.int k' b=>match op with
  |.shl=>some (some (0≤b∧b≤(k.bits:Int)),.int k (k.wrap (a*2^b.toNat)))
  |.shr=>some (some (0≤b∧b≤(k.bits:Int)),.int k (a/2^b.toNat))
  |op=>if kEq k k' then zjr m op k a b else none
 |.string a,.string b=>zld op (bl a) (bl b)
 |.bool a,.bool b=>
  match P.underlying t with
  |some .bool=>zle op a b
  |_=>none
 |.agg xs,.agg ys=>
  if P.eqGuardType P.depth t then none else
  match op with
  |.eql=>match j5 P 8 t (.agg xs) (.agg ys)with
   |some r=>some (none,.bool r)
   |none=>none
  |.neq=>match j5 P 8 t (.agg xs) (.agg ys)with
   |some r=>some (none,.bool (!r))
   |none=>none
  |_=>none
 |.slice a _ _,.slice none _ _=>match P.underlying t with
  |some (.slice _)=>match op with
   |.eql=>some (none,.bool a.isNone)
   |.neq=>some (none,.bool (!a.isNone))
   |_=>none
  |_=>none
 |_,_=>none
def isK:Operand→Bool
 |.const _=>true
 |_=>false
def zla(P:Program)(op:BinOp)(t:TypeId)(vx:Value):Option (Option Prop×Value):=
 match P.underlying t,op,vx with
 |some (.interface _),.eql,.nilIface=>some (none,.bool true)
 |some (.interface _),.neq,.nilIface=>some (none,.bool false)
 |some (.interface _),.eql,.iface _ _=>some (none,.bool false)
 |some (.interface _),.neq,.iface _ _=>some (none,.bool true)
 |_,_,_=>none
def znd(ev:Operand→Option Value):Option Operand→Option (Option Value)
 |none=>some none
 |some x=>match ev x with
  |some v=>some (some v)
  |none=>none
def zfL(s:ByteArray):Option Value→Option Value→Option (Option Prop×Value)
 |none,none=>some (none,.string s)
 |some (.int _ lo),none=>some (some (0≤lo∧lo≤(bl s).length),.string (bs (Qi (bl s) lo)))
 |none,some (.int _ hi)=>some (some (0≤hi∧hi≤(bl s).length),.string (bs (Zt (bl s) hi)))
 |some (.int _ lo),some (.int _ hi)=>some (some (0≤lo∧lo≤hi∧hi≤(bl s).length),.string (bs (Vc.sub (bl s) lo hi)))
 |_,_=>none
def ziD(ev:Operand→Option Value):List Operand→Option (List Value)
 |[]=>some []
 |x::r=>match ev x,ziD ev r with
  |some v,some vs=>some (v::vs)
  |_,_=>none
def zkt(ev:Operand→Option Value):List (Nat×Operand)→Option (List (Nat×Value))
 |[]=>some []
 |(i,x)::r=>match ev x,zkt ev r with
  |some v,some vs=>some ((i,v)::vs)
  |_,_=>none
def yG:Value→Bool
 |.agg _|.tuple _=>false
 |_=>true
def QO(P:Program):List Field→Option (List (Nat×Nat))
 |[]=>some []
 |f::r=>match zx P f.type,QO P r with
  |some n,some rs=>some ((f.offset,n)::rs)
  |_,_=>none
def XS(P:Program)(t:TypeId)(parts:List (Nat×Value)):Option Value:=
 match P.info? t,P.underlying t with
 |some i,some (.struct fields)=>
  match i.zero,QO P fields.toList with
  |some z,some places=>match Instr.fill (fun j=>places[j]?) z.cells parts with
   |some cells=>some (.agg cells)
   |none=>none
  |_,_=>none
 |some i,some (.array _ elem)=>
  match i.zero,zx P elem with
  |some z,some size=>match Instr.fill (fun j=>some (j*size,size)) z.cells parts with
   |some cells=>some (.agg cells)
   |none=>none
  |_,_=>none
 |_,_=>none
def zA(P:Program)(m:Mode)(ev:Operand→Option Value)(op:Op):Option (Option Prop×Value):=
 match op with
 |.move x|.assign x=>match ev x with
  |some v=>some (none,v)
  |none=>none
 |.binOp op t x y _=>match ev x,ev y with
  |some vx,some vy=>match isK y,vy with
   |true,.nilIface=>zla P op t vx
   |_,_=>XT P m op t vx vy
  |_,_=>none
 |.unOp op _ x=>match op,ev x with
  |.not,some (.bool b)=>some (none,.bool (!b))
  |.neg,some (.int k n)=>some (m.int k (-n))
  |_,_=>none
 |.convert src dst x=>match P.underlying src,P.underlying dst,ev x with
  |some (.int _),some (.int k),some (.int _ n)=>some (m.int k n)
  |some .string,some .string,some (.string s)=>some (none,.string s)
  |_,_,_=>none
 |.extract x i=>match ev x with
  |some (.tuple vs)=>match vs.toList[i]? with
   |some v=>some (none,v)
   |none=>none
  |_=>none
 |.nilCheck x=>match ev x with
  |some (.pointer (some a))=>some (none,.pointer (some a))
  |some (.func (.func f) first cap)=>some (none,.func (.func f) first cap)
  |_=>none
 |.makeFunc fn first captured=>match ziD ev first.toList,ziD ev captured.toList with
  |some vs,some us=>some (none,.func fn vs.toArray us.toArray)
  |_,_=>none
 |.index t x i=>match P.underlying t,ev x,ev i with
  |some .string,some (.string s),some (.int _ n)=>some (some (0≤n∧n<(bl s).length),.int .u8 (byteAt (bl s) n))
  |some (.array len elem),some (.agg cs),some (.int _ n)=>match zx P elem with
   |some size=>match zT P elem cs.toList (n.toNat*size)with
    |some v=>some (some (0≤n∧n<(len:Int)),v)
    |none=>none
   |none=>none
  |_,_,_=>none
 |.slice t x lo hi mx=>match P.underlying t,ev x,znd ev lo,znd ev hi,mx with
  |some .string,some (.string s),some l,some h,none=>zfL s l h
  |_,_,_,_,_=>none
 |.fieldAddr s x f=>match P.underlying s,ev x with
  |some (.struct fields),some (.pointer (some a))=>match fields[f]? with
   |some fd=>match zx P fd.type with
    |some n=>if Nat.beq n 0 then none else some (none,.pointer (some (a.add fd.offset)))
    |none=>none
   |none=>none
  |_,_=>none
 |.field t x f=>match P.underlying t,ev x with
  |some (.struct fields),some (.agg cs)=>match fields[f]? with
   |some fd=>match zT P fd.type cs.toList fd.offset with
    |some v=>some (none,v)
    |none=>none
   |none=>none
  |_,_=>none
 |.indexAddr t x i=>match P.underlying t,ev x,ev i with
  |some (.slice elem),some (.slice (some a) len _),some (.int _ n)=>match zx P elem with
   |some size=>some (some (0≤n∧n<(len:Int)),.pointer (some (a.add (n.toNat*size))))
   |none=>none
  |some (.array len elem),some (.pointer (some a)),some (.int _ n)=>match zx P elem with
   |some size=>some (some (0≤n∧n<(len:Int)),.pointer (some (a.add (n.toNat*size))))
   |none=>none
  |_,_,_=>none
 |.build t parts=>match zkt ev parts.toList with
  |some ps=>match XS P t ps with
   |some v=>some (none,v)
   |none=>none
  |none=>none
 |.call {callee:=.builtin .len,args,argTypes}=>match argTypes.toList,args.toList with
  |[t],[x]=>match P.underlying t,ev x with
   |some .string,some (.string s)=>some (none,.int .i64 ((bl s).length:Int))
   |some (.slice _),some (.slice _ n _)=>some (none,.int .i64 (n:Int))
   |some (.array n _),some _=>some (none,.int .i64 (n:Int))
   |_,_=>none
  |_,_=>none
 |_=>none
section
variable {P : Program}
theorem jf{t:TypeId}{n:Nat}{W:World}(h:zx P t=some n):(sizeOf t).run P W=.ok n W:=by
 unfold zx at h;split at h
 ·rename_i i hi;cases h;simp[sizeOf,typeInfo,hi]
 ·cases h
theorem VH(cs:Array Value)(off n:Nat):cs.extract off (off+n)=(List.take n (List.drop off cs.toList)).toArray:=by apply Array.ext';simp[List.extract_eq_take_drop]
theorem Zn{t:TypeId}{cs:Array Value}{off:Nat}{v:Value}{W:World}(h:zT P t cs.toList off=some v):(part t cs off).run P W=.ok v W:=by
 unfold zT at h;split at h
 ·rename_i n ha hn;cases h;unfold zw at ha;have hs:=jf (W:=W) hn;split at ha
  ·rename_i hu;simp[part,isAgg,run_underlying hu,hs,VH]
  ·rename_i hu;simp[part,isAgg,run_underlying hu,hs,VH]
  ·cases ha
  ·cases ha
 ·rename_i n ha hn;unfold zw at ha;split at ha
  ·cases ha
  ·cases ha
  ·rename_i d hd1 hd2 hu;have hx:cs[off]? =some v:=by simpa using h
   have hna:(isAgg t).run P W=.ok false W:=by simp only[isAgg,Sem.run_bind,run_underlying hu,Result.andThen_ok];cases d<;>simp_all
   simp[part,hna,hx]
  ·cases ha
 ·cases h
theorem zii(d D:Nat)(f:TypeId→Value→Value→Option Bool)(W:World)
  (hf:∀t x y r,f t x y=some r→(Op.equalIn D t x y).run P W=.ok r W) (xs ys:Array Value):∀(l:List Field)(r:Bool),
  ZF P f xs.toList ys.toList l=some r→(Op.eqFields D xs ys l).run P W=.ok r W
 |[],r,h=>by simp[ZF]at h;subst h;simp[Op.eqFields]
 |[g],r,h=>by
  simp only[ZF]at h;split at h
  ·cases h
  ·rename_i hn;have hn':g.name≠ "_" :=by simpa using hn
   split at h
   ·rename_i a b ha hb;simp only[Op.eqFields,ne_eq,hn',not_false_eq_true,if_true,Sem.run_bind,Zn ha,Zn hb,Result.andThen_ok,hf _ _ _ _ h];cases r<;>simp
   ·cases h
 |g::g'::l,r,h=>by
  rw[ZF]at h;case x_1=>intro hh;cases hh
  split at h
  ·cases h
  ·rename_i hn;have hn':g.name≠ "_" :=by simpa using hn
   split at h
   ·rename_i a b ha hb;split at h
    ·rename_i c r' hc hr;cases h;have ih:=zii d D f W hf xs ys (g'::l) r' hr;rw[Op.eqFields];simp only[ne_eq,hn',not_false_eq_true,if_true,Sem.run_bind,Zn ha,Zn hb,Result.andThen_ok,hf _ _ _ _ hc];cases c
     ·simp
     ·simp[ih]
    ·cases h
   ·cases h
theorem Wp:∀(d D:Nat)(t:TypeId)(x y:Value)(r:Bool)(W:World),d≤D→j5 P d t x y=some r→(Op.equalIn D t x y).run P W=.ok r W
 |0,_,_,_,_,_,_,_,h=>by simp[j5]at h
 |d+1,0,_,_,_,_,_,hD,_=>by omega
 |d+1,D+1,t,x,y,r,W,hD,h=>by
  simp only[j5]at h;split at h
  ·rename_i hu;cases h;exact run_equalIn_bool W D t _ _ hu
  ·rename_i hu;split at h
   ·rename_i hk;cases h;have:=of_decide_eq_true hk;subst this;exact run_equalIn_int W D t _ _ _ _ hu
   ·cases h
  ·rename_i hu;cases h;rw[run_equalIn_string W D t _ _ hu,ByteArray.toList_eq,ByteArray.toList_eq];rfl
  ·rename_i fs xs ys hu;split at h
   ·cases h
   ·rename_i hs;have hf:P.fieldsOf t=fs:=by simp[Program.fieldsOf,hu]
    rw[run_equalIn_struct W D t xs ys (by rw[hf];exact hu) (by simpa using hs),hf];exact zii d D _ W (fun t x y r hr=>Wp d D t x y r W (by omega) hr) xs ys _ _ h
  ·cases h
theorem zaB(W:World)(D:Nat)(t e:TypeId)(a:Option Addr)(n c n' c':Nat)(hu:P.underlying t=some (.slice e)):
  (Op.equalIn (D+1) t (.slice a n c) (.slice none n' c')).run P W=.ok a.isNone W:=by
 cases a<;>simp[Op.equalIn,run_underlying hu]
theorem zpq{m:Mode}{op:BinOp}{t:TypeId}{vx vy:Value}{c:Option Prop}{v:Value}(h:XT P m op t vx vy=some (c,v))(hc:jg c)
  (x y:Operand) (W:World):
  (do eqGuard op t x y vx vy;binOp op t vx vy).run P W=.ok v W:=by
 unfold XT at h;split at h
 ·rename_i k a k' b;have hgs:∀o:BinOp,o=.shl∨o=.shr→(eqGuard o t x y (.int k a) (.int k' b)).run P W=.ok () W:=by intro o ho;rcases ho with rfl|rfl<;>(unfold eqGuard;split<;>simp_all)
  split at h
  ·simp only[Option.some.injEq,Prod.mk.injEq]at h;obtain⟨rfl,rfl⟩:=h;rw[Sem.run_bind,hgs .shl (.inl rfl),Result.andThen_ok];show(Op.shift .shl k a k' b).run P W=_;rw[shift_shl k k' a b hc.1 hc.2];rfl
  ·simp only[Option.some.injEq,Prod.mk.injEq]at h;obtain⟨rfl,rfl⟩:=h;rw[Sem.run_bind,hgs .shr (.inr rfl),Result.andThen_ok];show(Op.shift .shr k a k' b).run P W=_;rw[shift_shr k k' a b hc.1 hc.2];rfl
  split at h
  ·rename_i hk;obtain rfl:k=k':=by simpa[kEq]using hk
   have hg:(eqGuard op t x y (.int k a) (.int k b)).run P W=.ok () W:=by unfold eqGuard;split<;>simp_all
   rw[Sem.run_bind,hg,Result.andThen_ok];cases op<;>simp only[zjr,Option.some.injEq,Prod.mk.injEq,reduceCtorEq]at h;case add=>have:=m.int_val k (a+b) h hc;subst this;simp[binOp,Op.intArith]
   case sub=>have:=m.int_val k (a-b) h hc;subst this;simp[binOp,Op.intArith]
   case mul=>have:=m.int_val k (a*b) h hc;subst this;simp[binOp,Op.intArith]
   case quo=>
    obtain⟨rfl,rfl⟩:=h;obtain⟨h1,h2,h3⟩:=hc;have h0:¬b=0:=by omega
    have hd:a.tdiv b=a/b:=Int.tdiv_eq_ediv_of_nonneg h1;simp[binOp,Op.intDiv,h0,hd,zhX h3]
   case rem=>
    obtain⟨rfl,rfl⟩:=h;obtain⟨h1,h2⟩:=hc;have h0:¬b=0:=by omega
    have hd:a.tmod b=a%b:=Int.tmod_eq_emod_of_nonneg h1;simp[binOp,Op.intDiv,h0,hd]
   case and=>obtain⟨rfl,rfl⟩:=h;simp[binOp,intBits_and]
   case or=>obtain⟨rfl,rfl⟩:=h;simp[binOp,intBits_or]
   case xor=>obtain⟨rfl,rfl⟩:=h;simp[binOp,intBits_xor]
   all_goals (obtain⟨rfl,rfl⟩:=h;simp[binOp,Op.intCmp])
  ·cases h
 ·rename_i a b;have hg:(eqGuard op t x y (.string a) (.string b)).run P W=.ok () W:=by unfold eqGuard;split<;>simp_all
  rw[Sem.run_bind,hg,Result.andThen_ok];have e1:a.toList=bl a:=ByteArray.toList_eq a;have e2:b.toList=bl b:=ByteArray.toList_eq b;cases op<;>simp only[zld,Option.some.injEq,Prod.mk.injEq,reduceCtorEq]at h;case add=>
   obtain⟨rfl,rfl⟩:=h;have hc':(bl a).length+(bl b).length≤9223372036854775807:=hc;have h0:¬(((a.size+b.size:Nat):Int)>IntKind.i64.max):=by have:IntKind.i64.max=9223372036854775807:=rfl;rw[this,jc,jc];omega
   simp only[binOp,Op.stringOp,h0,if_false,znM];simp
  all_goals (obtain⟨rfl,rfl⟩:=h;simp[binOp,Op.stringOp,e1,e2])
 ·rename_i a b;split at h
  ·rename_i hu;have hg:(eqGuard op t x y (.bool a) (.bool b)).run P W=.ok () W:=by unfold eqGuard;split<;>simp_all
   rw[Sem.run_bind,hg,Result.andThen_ok];cases op<;>simp only[zle,Option.some.injEq,Prod.mk.injEq,reduceCtorEq]at h;case eql=>obtain⟨rfl,rfl⟩:=h;exact run_eql_bool W t a b hu
   case neq=>obtain⟨rfl,rfl⟩:=h;exact run_neq_bool W t a b hu
  ·cases h
 ·rename_i xs ys;split at h
  ·cases h
  ·rename_i hg0;have hg:(eqGuard op t x y (.agg xs) (.agg ys)).run P W=.ok () W:=by
    have hgt:P.eqGuardType P.depth t=false:=by simpa using hg0
    cases op<;>simp[eqGuard,hgt]
   rw[Sem.run_bind,hg,Result.andThen_ok];cases op<;>simp only[reduceCtorEq]at h;case eql=>
    split at h
    ·rename_i r hr;simp only[Option.some.injEq,Prod.mk.injEq]at h;obtain⟨rfl,rfl⟩:=h;have he:(Op.equalIn 10000 t (.agg xs) (.agg ys)).run P W=.ok r W:=Wp 8 10000 t _ _ r W (by omega) hr;rw[run_eql_struct,he];rfl
    ·cases h
   case neq=>
    split at h
    ·rename_i r hr;simp only[Option.some.injEq,Prod.mk.injEq]at h;obtain⟨rfl,rfl⟩:=h;have he:(Op.equalIn 10000 t (.agg xs) (.agg ys)).run P W=.ok r W:=Wp 8 10000 t _ _ r W (by omega) hr;rw[run_neq_struct,he];rfl
    ·cases h
 ·rename_i a n c n' c';have hg:(eqGuard op t x y (.slice a n c) (.slice none n' c')).run P W=.ok () W:=by unfold eqGuard;split<;>simp_all
  rw[Sem.run_bind,hg,Result.andThen_ok];split at h
  ·rename_i e hu;have he:(Op.equal t (.slice a n c) (.slice none n' c')).run P W=.ok a.isNone W:=zaB W 9999 t e a n c n' c' hu;split at h
   ·cases h;simp[binOp,he]
   ·cases h;simp[binOp,he]
   ·cases h
  ·cases h
 ·cases h
theorem YJ(W:World)(D:Nat)(t:TypeId)(ms:Array (String×TypeId))(hu:P.underlying t=some (.interface ms)):(Op.equalIn (D+1) t .nilIface .nilIface).run P W=.ok true W:=by simp[Op.equalIn,run_underlying hu]
theorem YK(W:World)(D:Nat)(t:TypeId)(ms:Array (String×TypeId))(a:TypeId)(b:Value)(hu:P.underlying t=some (.interface ms)):(Op.equalIn (D+1) t (.iface a b) .nilIface).run P W=.ok false W:=by simp[Op.equalIn,run_underlying hu]
theorem zpr{op:BinOp}{t:TypeId}{vx:Value}{c:Option Prop}{v:Value}(h:zla P op t vx=some (c,v)){y:Operand}(hy:isK y=true)(x:Operand)(W:World):
  (do eqGuard op t x y vx .nilIface;binOp op t vx .nilIface).run P W=.ok v W:=by
 have hk:∃u,y=.const u:=by cases y<;>first|exact⟨_,rfl⟩|cases hy
 obtain⟨u,rfl⟩:=hk;unfold zla at h;split at h<;>cases h
 ·rename_i hu;have he:(Op.equal t .nilIface .nilIface).run P W=.ok true W:=by exact YJ W 9999 t _ hu
  simp[eqGuard,binOp,he]
 ·rename_i hu;have he:(Op.equal t .nilIface .nilIface).run P W=.ok true W:=by exact YJ W 9999 t _ hu
  simp[eqGuard,binOp,he]
 ·rename_i a b hu;have he:(Op.equal t (.iface a b) .nilIface).run P W=.ok false W:=by exact YK W 9999 t _ a b hu
  simp[eqGuard,binOp,he]
 ·rename_i a b hu;have he:(Op.equal t (.iface a b) .nilIface).run P W=.ok false W:=by exact YK W 9999 t _ a b hu
  simp[eqGuard,binOp,he]
theorem zhd{ev:Operand→Option Value}{ρ:Operand→Value}:∀(l:List Operand)(vs:List Value),(∀x∈l,∀v,ev x=some v→ρ x=v)→
  ziD ev l=some vs→l.map ρ=vs
 |[],vs,_,h=>by simp[ziD]at h;simp[h]
 |x::r,vs,hρ,h=>by
  simp only[ziD]at h;split at h
  ·rename_i v us hv hu;cases h;rw[List.map_cons,hρ x (by simp) v hv,zhd r us (fun y hy=>hρ y (by simp[hy])) hu]
  ·cases h
theorem zms{ev:Operand→Option Value}{ρ:Operand→Value}:∀(l:List (Nat×Operand))(vs:List (Nat×Value)),(∀x∈l,∀v,ev x.2=some v→ρ x.2=v)→
  zkt ev l=some vs→l.map (fun p=>(p.1,ρ p.2))=vs
 |[],vs,_,h=>by simp[zkt]at h;simp[h]
 |(i,x)::r,vs,hρ,h=>by
  simp only[zkt]at h;split at h
  ·rename_i v us hv hu;cases h;rw[List.map_cons,hρ (i,x) (by simp) v hv,zms r us (fun y hy=>hρ y (by simp[hy])) hu]
  ·cases h
theorem zaa(W:World):∀(l:List Field)(rs:List (Nat×Nat)),QO P l=some rs→
  (l.mapM fun f=>do pure (f.offset,←sizeOf f.type):Sem (List (Nat×Nat))).run P W=.ok rs W
 |[],rs,h=>by simp[QO]at h;subst h;simp
 |f::r,rs,h=>by
  simp only[QO]at h;split at h
  ·rename_i n us hn hu;cases h;have ih:=zaa W r us hu;rw[List.mapM_cons,Sem.run_bind,Sem.run_bind,jf hn,Result.andThen_ok];show(Sem.run P (List.mapM _ r>>=_) W)=_;rw[Sem.run_bind,ih,Result.andThen_ok];rfl
  ·cases h
theorem zih{ev:Operand→Option Value}{ρ:Operand→Value}{x:Option Operand}{v:Option Value}(h:znd ev x=some v)
  (hρ:∀y,x=some y→∀u,ev y=some u→ρ y=u):x.map ρ=v:=by
 cases x with
 |none=>simp[znd]at h;simp[h]
 |some y=>
  simp only[znd]at h;split at h
  ·rename_i u hu;cases h;simp[hρ y rfl u hu]
  ·cases h
theorem zk6(s:ByteArray){n:Int}(h0:0≤n)(h1:n<(bl s).length):s[n.toNat]? =some ((bl s).getD n.toNat 0):=by
 have hlt:n.toNat<(bl s).length:=by omega
 have hs:n.toNat<s.size:=by rw[jc];exact hlt
 rw[ByteArray.getElem?_lt' s _ hs];have:(bl s).getD n.toNat 0=(bl s)[n.toNat]:=by rw[List.getD_eq_getElem?_getD,List.getElem?_eq_getElem hlt];rfl
 rw[this];rfl
theorem yY{k:IntKind}{i:Int}{y:Nat}{code:BoundsCode}{W:World}(h:0≤i∧i≤y):
  (Instr.sliceBound (.int k i) y code).run P W=.ok i.toNat W:=by
 simp[Instr.sliceBound,asIntOf,h]
theorem XM(s:ByteArray)(a b:Nat):s.extract a b=bs ((bl s).take b|>.drop a):=by have h:=ByteArray.extract_mk (bl s) a b;have e:(ByteArray.mk (bl s).toArray)=s:=rfl;rw[e]at h;rw[h,List.drop_take];rfl
theorem zjW{t:TypeId}{s:ByteArray}{l h:Option Value}{c:Option Prop}{v:Value}{W:World}(hu:P.underlying t=some .string)
  (hs:zfL s l h=some (c,v)) (hc:jg c):(Instr.sliceAt t (.string s) l h none).run P W=.ok v W:=by
 have hsz:=jc s;unfold zfL at hs;split at hs
 ·cases hs;simp[Instr.sliceAt,Instr.slice,Instr.sliceBounds,run_underlying hu]
 ·cases hs;rename_i k lo;have hc:0≤lo∧lo≤((bl s).length:Int):=hc;have h1:(Instr.sliceBound (.int k lo) s.size .sliceB).run P W=.ok lo.toNat W:=yY (by rw[hsz];exact hc);rw[hsz]at h1;simp[Instr.sliceAt,Instr.slice,Instr.sliceBounds,run_underlying hu,h1,XM,Qi,hsz]
 ·cases hs;rename_i k hi;have hc:0≤hi∧hi≤((bl s).length:Int):=hc;have h1:(Instr.sliceBound (.int k hi) s.size .sliceAlen).run P W=.ok hi.toNat W:=yY (by rw[hsz];exact hc);simp[Instr.sliceAt,Instr.slice,Instr.sliceBounds,run_underlying hu,h1,XM,Zt]
 ·cases hs;rename_i k lo k' hi;obtain⟨h0,h1,h2⟩:0≤lo∧lo≤hi∧hi≤((bl s).length:Int):=hc;have e1:(Instr.sliceBound (.int k' hi) s.size .sliceAlen).run P W=.ok hi.toNat W:=yY (by rw[hsz];omega);have e2:(Instr.sliceBound (.int k lo) hi.toNat .sliceB).run P W=.ok lo.toNat W:=yY (by omega);simp[Instr.sliceAt,Instr.slice,Instr.sliceBounds,run_underlying hu,e1,e2,XM,Vc.sub]
 ·cases hs
theorem zjX{t:TypeId}{parts:Array (Nat×Value)}{v:Value}{W:World}(h:XS P t parts.toList=some v):
  (Instr.build t parts).run P W=.ok v W:=by
 unfold XS at h;split at h
 ·rename_i i fields hi hu;split at h
  ·rename_i z places hz hp;split at h
   ·rename_i cells hf;cases h;have hm:=zaa W _ _ hp;have hm':(fields.mapM fun f=>do pure (f.offset,←sizeOf f.type):Sem (Array (Nat×Nat))).run P W=.ok places.toArray W:=by rw[Array.mapM_eq_mapM_toList];simp only[map_eq_pure_bind];rw[Sem.run_bind,hm];rfl
    have hz':(zeroValue t).run P W=.ok z W:=by simp[zeroValue,typeInfo,hi,hz]
    simp only[Instr.build,Sem.run_bind,hz',Result.andThen_ok,run_underlying hu,hm'];simp[hf]
   ·cases h
  ·cases h
 ·rename_i i n elem hi hu;split at h
  ·rename_i z size hz hp;split at h
   ·rename_i cells hf;cases h;have hz':(zeroValue t).run P W=.ok z W:=by simp[zeroValue,typeInfo,hi,hz]
    simp only[Instr.build,Sem.run_bind,hz',Result.andThen_ok,run_underlying hu,jf hp];simp[hf]
   ·cases h
  ·cases h
 ·cases h
theorem zcI{m:Mode}{ev:Operand→Option Value}{ρ:Operand→Value}{o:Oper}{c:Option Prop}{v:Value}
  (h:zA P m ev o.op=some (c,v)) (hc:jg c) (hρ:∀x∈o.op.operands,∀u,ev x=some u→ρ x=u) (W:World):
  (execOp ρ o).run P W=.ok (.value v) W:=by
 obtain⟨dst,op,type,pos,after,guard⟩:=o;simp only at h hρ;unfold zA at h;split at h
 ·rename_i x;split at h
  ·rename_i u hu;cases h;simp[execOp,hρ x (by simp[Op.operands]) _ hu]
  ·cases h
 ·rename_i x;split at h
  ·rename_i u hu;cases h;simp[execOp,hρ x (by simp[Op.operands]) _ hu]
  ·cases h
 ·rename_i op t x y yt;split at h
  ·rename_i vx vy hx hy;split at h
   ·rename_i hk;have:=zpr h hk x W;simp only[execOp,hρ x (by simp[Op.operands]) _ hx,hρ y (by simp[Op.operands]) _ hy];rw[Sem.run_bind,this];rfl
   ·have:=zpq h hc x y W;simp only[execOp,hρ x (by simp[Op.operands]) _ hx,hρ y (by simp[Op.operands]) _ hy];rw[Sem.run_bind,this];rfl
  ·cases h
 ·rename_i op t x;split at h
  ·rename_i b hx;cases h;simp[execOp,Op.unary,hρ x (by simp[Op.operands]) _ hx]
  ·rename_i k n hx;simp only[Option.some.injEq]at h;have:=m.int_val k (-n) h hc;subst this;simp[execOp,Op.unary,Op.intArith,hρ x (by simp[Op.operands]) _ hx]
  ·cases h
 ·rename_i src dst' x;split at h
  ·rename_i k0 k k1 n h1 h2 hx;simp only[Option.some.injEq]at h;have:=m.int_val k n h hc;subst this;simp[execOp,convert,Conv.intToInt,run_underlying h1,run_underlying h2,hρ x (by simp[Op.operands]) _ hx]
  ·rename_i s h1 h2 hx;cases h;simp[execOp,convert,run_underlying h1,run_underlying h2,hρ x (by simp[Op.operands]) _ hx]
  ·cases h
 ·rename_i x i;split at h
  ·rename_i vs hx;split at h
   ·rename_i u hu;cases h;have hu':vs[i]? =some v:=by simpa using hu
    simp[execOp,Instr.extract,hρ x (by simp[Op.operands]) _ hx,hu']
   ·cases h
  ·cases h
 ·rename_i x;split at h
  ·rename_i a hx;cases h;simp[execOp,hρ x (by simp[Op.operands]) _ hx]
  ·rename_i f first cap hx;cases h;simp[execOp,hρ x (by simp[Op.operands]) _ hx]
  ·cases h
 ·rename_i fn first captured
  split at h
  ·rename_i vs us h1 h2;cases h;have e1:=zhd first.toList vs (fun x hx=>hρ x (by simp[Op.operands];exact .inl (by simpa using hx))) h1
   have e2:=zhd captured.toList us (fun x hx=>hρ x (by simp[Op.operands];exact .inr (by simpa using hx))) h2;have e1':first.map ρ=vs.toArray:=by apply Array.ext';simpa using e1
   have e2':captured.map ρ=us.toArray:=by apply Array.ext';simpa using e2
   simp[execOp,Instr.makeFunc,e1',e2']
  ·cases h
 ·rename_i t x i;split at h
  ·rename_i s k n h1 hx hi;cases h;have hc:0≤n∧n<((bl s).length:Int):=hc;have hb:=zk6 s hc.1 hc.2;simp[execOp,Instr.index,asIntOf,run_underlying h1,hρ x (by simp[Op.operands]) _ hx,hρ i (by simp[Op.operands]) _ hi,hc.1,hb,byteAt]
  ·rename_i len elem cs k n h1 hx hi;split at h
   ·rename_i size hs;split at h
    ·rename_i u hu;cases h;have hc:0≤n∧n<(len:Int):=hc;simp[execOp,Instr.index,asIntOf,run_underlying h1,hρ x (by simp[Op.operands]) _ hx,hρ i (by simp[Op.operands]) _ hi,hc,jf hs,Zn hu]
    ·cases h
   ·cases h
  ·cases h
 ·rename_i t x lo hi mx;split at h
  ·rename_i s l h' h1 hx hl hh;have el:=zih hl (ρ:=ρ) (fun y hy=>hρ y (by simp[Op.operands,hy]));have eh:=zih hh (ρ:=ρ) (fun y hy=>hρ y (by simp[Op.operands,hy]));have:=zjW (W:=W) h1 h hc;simp[execOp,el,eh,hρ x (by simp[Op.operands]) _ hx,this]
  ·cases h
 ·rename_i s x f;split at h
  ·rename_i fields a h1 hx;split at h
   ·rename_i fd hfd;split at h
    ·rename_i n hn;split at h
     ·cases h
     ·rename_i hne;cases h;have hne':¬n=0:=by simpa using hne
      simp[execOp,Instr.fieldAt,Instr.sureAddr,fieldPlace,run_underlying h1,hρ x (by simp[Op.operands]) _ hx,hfd,jf hn,hne']
    ·cases h
   ·cases h
  ·cases h
 ·rename_i t x f;split at h
  ·rename_i fields cs h1 hx;split at h
   ·rename_i fd hfd;split at h
    ·rename_i u hu;cases h;simp[execOp,Instr.field,asAgg,run_underlying h1,hρ x (by simp[Op.operands]) _ hx,hfd,Zn hu]
    ·cases h
   ·cases h
  ·cases h
 ·rename_i t x i;split at h
  ·rename_i elem a len cap k n h1 hx hi;split at h
   ·rename_i size hs;cases h;have hc:0≤n∧n<(len:Int):=hc;simp[execOp,Instr.indexAt,asIntOf,run_underlying h1,hρ x (by simp[Op.operands]) _ hx,hρ i (by simp[Op.operands]) _ hi,hc,jf hs]
   ·cases h
  ·rename_i len elem a k n h1 hx hi;split at h
   ·rename_i size hs;cases h;have hc:0≤n∧n<(len:Int):=hc;simp[execOp,Instr.indexAt,Instr.sureAddr,asIntOf,run_underlying h1,hρ x (by simp[Op.operands]) _ hx,hρ i (by simp[Op.operands]) _ hi,hc,jf hs]
   ·cases h
  ·cases h
 ·rename_i t parts;split at h
  ·rename_i ps hps;split at h
   ·rename_i u hu;cases h;have e:=zms parts.toList ps (fun x hx=>hρ x.2 (by simp[Op.operands];exact⟨x.1,by simpa using hx⟩)) hps;have hb:XS P t (parts.map fun p=>(p.1,ρ p.2)).toList=some v:=by rw[Array.toList_map,e];exact hu
    have:=zjX (W:=W) hb;simp only[execOp,Sem.run_bind,this,Result.andThen_ok];rfl
   ·cases h
  ·cases h
 ·rename_i args argTypes;split at h
  ·rename_i t x ht hx';have hta:argTypes= #[t]:=by apply Array.ext';simpa using ht
   have hxa:args= #[x]:=by apply Array.ext';simpa using hx'
   subst hta hxa;split at h
   ·rename_i s h1 hx;cases h;simp[execOp,resolve,invoke,builtin,Builtin.len_,goInt,run_underlying h1,hρ x (by simp[Op.operands,Call.operands]) _ hx,jc]
   ·rename_i e a n cap h1 hx;cases h;simp[execOp,resolve,invoke,builtin,Builtin.len_,goInt,run_underlying h1,hρ x (by simp[Op.operands,Call.operands]) _ hx]
   ·rename_i n e u h1 hx;cases h;simp[execOp,resolve,invoke,builtin,Builtin.len_,goInt,run_underlying h1]
   ·cases h
  ·cases h
 ·cases h
end
end Go.Vc
end
section
namespace Go.Vc
open Go Go.RowKit
inductive Hint where
 |auto (m:Mode)
 |mem (e:Nat)
 |call (v:Value) (st:List Nat) (eff:Option (Nat×Obj))
 |callO (v:Value) (st:List Nat) (eff:Option (Nat×Obj))
 |callP (Φ:Value→World→Prop) (st:List Nat)
 |callQ (v:Value) (st:List Nat)
structure OpR where
 path:List (Nat×Bool)
 val:Value
 eff:Option (Nat×Obj)
 pr:Option (Value→World→Prop):=none
structure RCtx where
 P:Program
 X:List Nat
 w0:World
 ws:World
 Y:List Nat
 ops:List Oper
 L:List (Nat×Value)
 H:List HB
 hints:List (Nat×Hint)
def zxa:List (Nat×Hint)→Nat→Hint
 |[],_=>.auto .exact
 |(j,h)::r,i=>match Nat.beq j i with
  |true=>h
  |false=>zxa r i
def wrFrom:List Oper→Nat→Nat→Option Nat
 |[],_,_=>none
 |o::r,i,t=>match o.dst with
  |some d=>match Nat.beq d t with
   |true=>some i
   |false=>wrFrom r (i+1) t
  |none=>wrFrom r (i+1) t
def gB(rs:List OpR)(g:Nat):Bool:=
 match rs[g]? with
 |some r=>match r.val with
  |.bool b=>b
  |_=>false
 |none=>false
def zv8(rs:List OpR):List (Nat×Bool)→Bool
 |[]=>true
 |(g,w)::r=>(gB rs g==w)&&zv8 rs r
def okV:Value⊕(Value→World→Prop)→Value→World→Prop
 |.inl u,v,_=>v=u
 |.inr Φ,v,W=>Φ v W
def Yg(P:Program)(g:Nat):Bool:=
 match P.funcs[g]? with
 |some fn=>!(fn.name== "runtime.NumGoroutine")&&fn.body.isSome
 |none=>false
theorem jt{P:Program}{g:Nat}(h:Yg P g=true):Proofs.Enters P g:=by
 unfold Yg at h;split at h
 ·rename_i fn hf;simp only[Bool.and_eq_true,Bool.not_eq_true']at h;obtain⟨c,hc⟩:=Option.isSome_iff_exists.1 h.2;exact Proofs.enters_of hf h.1 hc
 ·cases h
def edgesOf(o:Oper):List Nat:=o.after.toList.filterMap fun e=>if Region.binds .any e then some e.on else none
def zcs:List Oper→List (List Nat)→List (List Nat)
 |[],acc=>acc
 |o::r,acc=>zcs r (acc++[((edgesOf o).flatMap fun e=>e::(match acc[e]? with|some l=>l|none=>[])).eraseDups])
def beforeOf(draw:Bool)(ops:List Oper):List (List Nat):=if draw then zcs ops []else(List.range ops.length).map List.range
def memN(x:Nat)(l:List Nat):Bool:=l.any (Nat.beq x)
end Go.Vc
end
