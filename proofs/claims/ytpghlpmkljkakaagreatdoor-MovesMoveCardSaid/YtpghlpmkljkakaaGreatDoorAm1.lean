/-
  A part of the proof of the laws on moves.
-/
import Derived.Test.YtpghlpmkljkakaaGreatDoorVb
namespace Go.Am
open Go Go.RowKit Go.Vc
inductive AV where
 |undef
 |int (k:IntKind) (n:Int)
 |bool (b:Bool)
 |str (l:List UInt8)
 |nilp
 |nilf
 |nili
 |nilm
 |nils
 |ptr (i off:Nat)
 |ep (i sz:Nat) (idx:Int) (off:Nat)
 |rp (v:AV)
 |rw(i:Nat)
 |rwp (i:Nat)
 |rwf (i:Nat)
 |pos (k:IntKind)
 |rws (i sz:Nat) (lo len:Int)
 |rob (full:Bool) (l:List UInt8)
 |roi (full:Bool) (k:IntKind) (l:List Int)
 |ros (full:Bool) (l:List (List UInt8))
 |rov (full:Bool) (sz:Nat) (l:List AV)
 |fn (f:FuncId) (first cap:List AV)
 |fns (n:Int) (fs:List FuncId)
 |agg (cs:List AV)
 |tup (vs:List AV)
 |iface (t:TypeId) (v:AV)
 |map (i:Nat)
inductive AO where
 |cells (T:TypeId) (cs:List AV)
 |bytes (T:TypeId) (l:List UInt8)
 |ints (T:TypeId) (k:IntKind) (l:List Int)
 |strs (T:TypeId) (l:List (List UInt8))
 |vals (T:TypeId) (sz:Nat) (l:List AV)
 |iter (s:List UInt8) (pos:Nat)
 |mp (l:List (AV×AV))
abbrev Slots:=List (Nat×AV)
abbrev Heap:=List (Option AO)
structure St where
 s:Slots
 h:Heap
def get:Slots→Nat→AV
 |[],_=>.undef
 |(t,v)::r,x=>match Nat.beq t x with
  |true=>v
  |false=>get r x
def put(d:Nat)(v:AV):Slots→Slots
 |[]=>[(d,v)]
 |(t,u)::r=>match Nat.beq d t with
  |true=>(d,v)::r
  |false=>match Nat.ble d t with
   |true=>(d,v)::(t,u)::r
   |false=>(t,u)::put d v r
def putO(d:Option Nat)(v:AV)(s:Slots):Slots:=match d with
 |some d=>put d v s
 |none=>s
def hget(h:Heap)(i:Nat):Option AO:=match h[i]? with
 |some (some o)=>some o
 |_=>none
def chk{α:Type}(c:Bool)(x:Option α):Option α:=match c with
 |true=>x
 |false=>none
def bnd{α β:Type}(x:Option α)(f:α→Option β):Option β:=match x with
 |some v=>f v
 |none=>none
theorem zo{α:Type}{c:Bool}{x:Option α}{r:α}(h:chk c x=some r):c=true∧x=some r:=by
 cases c
 ·cases h
 ·exact⟨rfl,h⟩
theorem zfy{α β:Type}{x:Option α}{f:α→Option β}{r:β}(h:bnd x f=some r):∃v,x=some v∧f v=some r:=by
 cases x with
 |none=>cases h
 |some v=>exact⟨v,rfl,h⟩
@[simp] theorem za{α:Type}(x:Option α):chk true x=x:=rfl
@[simp] theorem zc{α β:Type}(v:α)(f:α→Option β):bnd (some v) f=f v:=rfl
@[simp] theorem zve{α β:Type}(f:α→Option β):bnd none f=none:=rfl
def inKb(k:IntKind)(n:Int):Bool:=match n with
 |.ofNat m=>Nat.ble m k.max.toNat
 |.negSucc m=>Nat.ble (m+1) (-k.min).toNat
theorem yl{k:IntKind}{n:Int}:inKb k n=true↔inK k n:=by
 have h1:k.min≤0:=by cases k<;>decide
 have h2:0≤k.max:=by cases k<;>decide
 unfold inKb inK;cases n with
 |ofNat m=>simp only[Nat.ble_eq,Int.ofNat_eq_natCast];omega
 |negSucc m=>simp only[Nat.ble_eq];omega
def ze(n:Int):Bool:=decide (0≤n)
def inIx(i:Int)(len:Nat):Bool:=decide (0≤i)&&decide (i<(len:Int))
def zj(lo hi:Int)(len:Nat):Bool:=decide (0≤lo)&&decide (lo≤hi)&&decide (hi≤(len:Int))
def zmY(k:IntKind)(n:Int):Bool×AV:=match k.signed with
 |true=>(inKb k n,.int k n)
 |false=>(true,.int k (k.wrap n))
def zeY(v:AV):Int:=match v with
 |.int _ n=>n
 |_=>0
def zuT(v:AV):List UInt8:=match v with
 |.str l=>l
 |_=>[]
def zuD(v:AV):Bool:=match v with
 |.bool b=>b
 |_=>false
def zr3(v:AV)(i:Nat):AV:=match v with
 |.agg cs=>match cs[i]? with
  |some c=>c
  |none=>.undef
 |v=>v
def atS(l:List (List UInt8))(i:Int):List UInt8:=l.getD i.toNat []
def atI(l:List Int)(i:Int):Int:=l.getD i.toNat 0
def atV(l:List AV)(i:Int):AV:=l.getD i.toNat .undef
def zb0(k:IntKind):AV→Bool
 |.int k' _=>kEq k k'
 |_=>false
def zpc:Value→AV
 |.int k n=>.int k n
 |.bool b=>.bool b
 |.string s=>.str (bl s)
 |.pointer none=>.nilp
 |.nilFunc=>.nilf
 |.nilIface=>.nili
 |.map none=>.nilm
 |.slice none 0 0=>.nils
 |.func (.func f) first cap=>match first.toList,cap.toList with
  |[],[]=>.fn f [] []
  |_,_=>.undef
 |_=>.undef
def ofV:Value→AV
 |.agg cs=>.agg (cs.toList.map zpc)
 |v=>zpc v
abbrev Glob:=List (Nat×AV)
def ju:Glob→Nat→AV
 |[],_=>.undef
 |(g,v)::r,x=>match Nat.beq g x with
  |true=>.rp v
  |false=>ju r x
def opnd(gl:Glob)(s:Slots):Operand→AV
 |.const v=>ofV v
 |.global g=>ju gl g
 |.func f=>.fn f [] []
 |.tmp t=>get s t
def zen(P:Program)(t:TypeId)(cs:List AV)(off:Nat):Option AV:=
 match ja P t,zG P t with
 |some true,some n=>match Nat.ble (off+n) cs.length with
  |true=>some (.agg ((cs.drop off).take n))
  |false=>none
 |some false,some 1=>cs[off]?
 |_,_=>none
def zvd(op:BinOp)(a b:Int):Option Bool:=
 match op with
 |.eql=>some (decide (a=b))
 |.neq=>some (!decide (a=b))
 |.lss=>some (decide (a<b))
 |.leq=>some (decide (a≤b))
 |.gtr=>some (decide (b<a))
 |.geq=>some (decide (b≤a))
 |_=>none
def znA(op:BinOp)(k:IntKind)(a b:Int):Option (Bool×AV):=
 match op with
 |.add=>some (zmY k (a+b))
 |.sub=>some (zmY k (a-b))
 |.mul=>some (zmY k (a*b))
 |.quo=>some (ze a&&decide (0<b)&&inKb k (a/b),.int k (a/b))
 |.rem=>some (ze a&&decide (0<b),.int k (a%b))
 |.and=>some (true,.int k (bits .and k a b))
 |.or=>some (true,.int k (bits .or k a b))
 |.xor=>some (true,.int k (bits .xor k a b))
 |_=>match zvd op a b with
  |some c=>some (true,.bool c)
  |none=>none
def zJ(a b:List UInt8):Bool:=Nat.ble (a.length+b.length) 9223372036854775807
theorem Y8{a b:List UInt8}:zJ a b=true↔((a.length:Int)+b.length)≤9223372036854775807:=by unfold zJ;rw[Nat.ble_eq];omega
def zjc(op:BinOp)(a b:List UInt8):Option (Bool×AV):=
 match op with
 |.add=>some (zJ a b,.str (a++b))
 |.eql=>some (true,.bool (decide (a=b)))
 |.neq=>some (true,.bool (!decide (a=b)))
 |.lss=>some (true,.bool (Op.bytesLess a b))
 |.leq=>some (true,.bool (Op.bytesLess a b||decide (a=b)))
 |.gtr=>some (true,.bool (!(Op.bytesLess a b||decide (a=b))))
 |.geq=>some (true,.bool (!(Op.bytesLess a b)))
 |_=>none
def zk4(P:Program):List Field→Nat→List AV→List AV→Option Bool
 |[],_,[],[]=>some true
 |f::r,n,x::xs,y::ys=>match Nat.beq f.offset n,f.name== "_",zG P f.type,zk4 P r (n+1) xs ys with
  |true,false,some 1,some c=>match P.underlying f.type,x,y with
   |some .bool,.bool a,.bool b=>some (decide (a=b)&&c)
   |some (.int _),.int k a,.int k' b=>match kEq k k' with
    |true=>some (decide (a=b)&&c)
    |false=>none
   |some .string,.str a,.str b=>some (decide (a=b)&&c)
   |_,_,_=>none
  |_,_,_,_=>none
 |_,_,_,_=>none
def zrz(P:Program)(t:TypeId)(xs ys:List AV):Option Bool:=
 match P.underlying t,P.eqGuardType P.depth t,P.stoodInHeld t with
 |some (.struct fs),false,false=>zk4 P fs.toList 0 xs ys
 |_,_,_=>none
def zuE(P:Program)(op:BinOp)(t:TypeId)(x y:AV):Option (Bool×AV):=
 match x,y with
 |.pos k,.int k' b=>match kEq k k',op,decide (b≤0)with
  |true,.eql,true=>some (true,.bool false)
  |true,.neq,true=>some (true,.bool true)
  |_,_,_=>none
 |.int k a,.int k' b=>match op with
  |.shl=>some (ze b&&Nat.ble b.toNat k.bits,.int k (k.wrap (a*2^b.toNat)))
  |.shr=>some (ze b&&Nat.ble b.toNat k.bits,.int k (a/2^b.toNat))
  |op=>match kEq k k' with
   |true=>znA op k a b
   |false=>none
 |.str a,.str b=>zjc op a b
 |.bool a,.bool b=>match P.underlying t,op with
  |some .bool,.eql=>some (true,.bool (decide (a=b)))
  |some .bool,.neq=>some (true,.bool (!decide (a=b)))
  |_,_=>none
 |.agg xs,.agg ys=>match op,zrz P t xs ys with
  |.eql,some c=>some (true,.bool c)
  |.neq,some c=>some (true,.bool (!c))
  |_,_=>none
 |_,_=>none
def ztZ(l:List UInt8):Option AV→Option AV→Option (Bool×AV)
 |none,none=>some (true,.str l)
 |some (.int _ lo),none=>some (zj lo l.length l.length,.str (zI l lo))
 |none,some (.int _ hi)=>some (zj 0 hi l.length,.str (zZ l hi))
 |some (.int _ lo),some (.int _ hi)=>some (zj lo hi l.length,.str (Vc.sub l lo hi))
 |_,_=>none
def setL(cs:List AV)(off:Nat)(vs:List AV):List AV:=cs.take off++vs++cs.drop (off+vs.length)
def cellsA:AV→List AV
 |.agg cs=>cs
 |v=>[v]
def yH:AV→Bool
 |.undef|.agg _|.tup _=>false
 |_=>true
def zfc(place:Nat→Option (Nat×Nat))(cs:List AV):List (Nat×AV)→Option (List AV)
 |[]=>some cs
 |(i,v)::r=>match place i with
  |none=>none
  |some (off,n)=>match Nat.beq (cellsA v).length n,Nat.ble (off+n) cs.length,(cellsA v).all yH with
   |true,true,true=>zfc place (setL cs off (cellsA v)) r
   |_,_,_=>none
def zgt(P:Program)(t:TypeId):Option (List AV):=
 match zjl P t with
 |some cs=>some (cs.map zpc)
 |none=>none
def znq(P:Program)(t:TypeId)(parts:List (Nat×AV)):Option AV:=
 match P.underlying t,zgt P t with
 |some (.struct fields),some z=>match KQ P fields.toList with
  |some places=>match zfc (fun j=>places[j]?) z parts with
   |some cs=>some (.agg cs)
   |none=>none
  |none=>none
 |some (.array _ elem),some z=>match zG P elem with
  |some n=>match zfc (fun j=>some (j*n,n)) z parts with
   |some cs=>some (.agg cs)
   |none=>none
  |none=>none
 |_,_=>none
def zky(P:Program)(t:TypeId)(v:AV):Option (Bool×AV):=
 match P.underlying t with
 |some (.int k)=>some (zb0 k v,.int k (zeY v))
 |some .string=>some (match v with|.str _=>true|_=>false,.str (zuT v))
 |some .bool=>some (match v with|.bool _=>true|_=>false,.bool (zuD v))
 |some (.func _ _ _)=>match v with
  |.fn f a c=>some (true,.fn f a c)
  |_=>none
 |_=>none
def zaB(P:Program)(v:AV):List Field→Nat→Option (Bool×List AV)
 |[],_=>some (true,[])
 |f::r,n=>match Nat.beq f.offset n,zky P f.type (zr3 v n),zaB P v r (n+1)with
  |true,some (c,x),some (d,xs)=>some (c&&d,x::xs)
  |_,_,_=>none
def zug(v:AV)(n:Nat):Bool:=match v with
 |.agg cs=>Nat.beq cs.length n
 |_=>false
def zd5(P:Program)(t:TypeId)(v:AV):Option (Bool×AV):=
 match P.underlying t with
 |some (.struct fs)=>match zaB P v fs.toList 0 with
  |some (c,xs)=>some (zug v xs.length&&c,.agg xs)
  |none=>none
 |_=>zky P t v
def lenO:AO→Nat
 |.bytes _ l=>l.length
 |.ints _ _ l=>l.length
 |.strs _ l=>l.length
 |.vals _ _ l=>l.length
 |_=>0
def zis(h:Heap):AV→Option Int
 |.nils=>some 0
 |.rw i=>match hget h i with
  |some o=>some (lenO o:Int)
  |none=>none
 |.rwp i=>match hget h i with
  |some o=>some (lenO o:Int)
  |none=>none
 |.rws _ _ _ n=>some n
 |.rob _ l=>some (l.length:Int)
 |.roi _ _ l=>some (l.length:Int)
 |.ros _ l=>some (l.length:Int)
 |.rov _ _ l=>some (l.length:Int)
 |_=>none
def zrg:AV→AV→Option Bool
 |.int k a,.int k' b=>match kEq k k' with
  |true=>some (decide (a=b))
  |false=>none
 |.str a,.str b=>some (decide (a=b))
 |_,_=>none
def zcG(P:Program)(kt:TypeId)(x:AV):Bool:=match P.underlying kt,x with
 |some (.int k),.int k' _=>kEq k k'
 |some .string,.str _=>true
 |_,_=>false
def JX{R:Type}(key:AV)(k:Option (Nat×AV)→Option R):List (AV×AV)→Nat→Option R
 |[],_=>k none
 |(x,v)::r,i=>match zrg key x with
  |some b=>cond b (k (some (i,v))) (JX key k r (i+1))
  |none=>none
def zqf(P:Program)(t:TypeId):Option AV:=match P.info? t with
 |some i=>match i.zero with
  |some z=>some (ofV z)
  |none=>none
 |none=>none
def okV(ok:Bool)(v:AV)(b:Bool):AV:=match ok with
 |true=>.tup [v,.bool b]
 |false=>v
def KX(P:Program)(t:TypeId):Option (TypeId×TypeId):=match P.underlying t with
 |some (.map k e)=>some (k,e)
 |_=>none
def Zl(h:Heap):AV→Option (Nat×List (AV×AV))
 |.map i=>match hget h i with
  |some (.mp l)=>some (i,l)
  |_=>none
 |_=>none
def mapPut(l:List (AV×AV))(key v:AV):Option (Nat×AV)→List (AV×AV)
 |some (j,_)=>l.take j++(key,v)::l.drop (j+1)
 |none=>l++[(key,v)]
def bdI(d:Int):Option AV→Option Int
 |none=>some d
 |some (.int _ n)=>some n
 |_=>none
def XE(h:Heap)(z:Nat)(v:AV)(lo hi:Option AV):Option (Bool×AV):=match v with
 |.rob _ l=>match Nat.beq z 1,bdI 0 lo,bdI (l.length:Int) hi with
  |true,some a,some b=>some (zj a b l.length,.rob false (Vc.sub l a b))
  |_,_,_=>none
 |.rw i=>match hget h i with
  |some o=>match bdI 0 lo,bdI (lenO o:Int) hi with
   |some a,some b=>some (zj a b (lenO o),.rws i z a (b-a))
   |_,_=>none
  |none=>none
 |.rws i z' c n=>match Nat.beq z z',bdI 0 lo,bdI n hi with
  |true,some a,some b=>some (decide (0≤a)&&decide (a≤b)&&decide (b≤n),.rws i z (c+a) (b-a))
  |_,_,_=>none
 |_=>none
def zr2(z:Nat)(v:AV)(lo hi:Option AV)(m:AV):Option (Bool×AV):=match v,hi,m with
 |.rob _ l,some (.int _ b),.int _ m=>match Nat.beq z 1,bdI 0 lo with
  |true,some a=>some (zj a b l.length&&decide (m=b),.rob true (Vc.sub l a b))
  |_,_=>none
 |_,_,_=>none
def Wr(ev:Operand→AV):List (Nat×Operand)→List (Nat×AV)
 |[]=>[]
 |(i,x)::r=>(i,ev x)::Wr ev r
def zaU(P:Program)(t:TypeId)(f:Nat):Option Field:=
 match P.underlying t with
 |some (.struct fs)=>fs[f]?
 |_=>none
def un:AV→AV
 |.rwf i=>.rw i
 |v=>v
def yb(P:Program)(h:Heap)(ev:Operand→AV)(op:Op):Option (Bool×AV):=
 match op with
 |.move x|.assign x=>some (true,ev x)
 |.binOp op t x y _=>zuE P op t (ev x) (ev y)
 |.unOp op _ x=>match op,ev x with
  |.not,.bool b=>some (true,.bool (!b))
  |.neg,.int k n=>some (zmY k (-n))
  |_,_=>none
 |.convert src dst x=>match P.underlying src,P.underlying dst,ev x with
  |some (.int _),some (.int k),.int _ n=>some (zmY k n)
  |some .string,some .string,.str l=>some (true,.str l)
  |_,_,_=>none
 |.extract x i=>match ev x with
  |.tup vs=>match vs[i]? with
   |some v=>some (true,v)
   |none=>none
  |_=>none
 |.nilCheck x=>match ev x with
  |.ptr i o=>some (true,.ptr i o)
  |.ep i z n o=>some (true,.ep i z n o)
  |.rp v=>some (true,.rp v)
  |.fn f first cap=>some (true,.fn f first cap)
  |.fns n fs=>some (true,.fns n fs)
  |_=>none
 |.makeFunc (.func f) first captured=>some (true,.fn f (first.toList.map ev) (captured.toList.map ev))
 |.index t x i=>match P.underlying t,ev x,ev i with
  |some .string,.str l,.int _ n=>some (inIx n l.length,.int .u8 (byteAt l n))
  |some (.array len elem),.agg cs,.int _ n=>match P.underlying elem,zG P elem,Nat.beq len cs.length with
   |some (.int k),some 1,true=>match cs.all (zb0 k)with
    |true=>some (inIx n cs.length,.int k (zeY (atV cs n)))
    |false=>none
   |_,some z,_=>match n with
    |.ofNat m=>match Nat.blt m len,zen P elem cs (m*z)with
     |true,some v=>some (true,v)
     |_,_=>none
    |.negSucc _=>none
   |_,_,_=>none
  |_,_,_=>none
 |.slice t x lo hi none=>match P.underlying t,ev x,lo.map ev,hi.map ev with
  |some .string,.str l,a,b=>ztZ l a b
  |_,_,_,_=>none
 |.fieldAddr s x f=>match zaU P s f,ev x with
  |some fd,.ptr i o=>match zG P fd.type with
   |some (_+1)=>some (true,.ptr i (o+fd.offset))
   |_=>none
  |some fd,.ep i z n o=>match zG P fd.type with
   |some (_+1)=>some (true,.ep i z n (o+fd.offset))
   |_=>none
  |_,_=>none
 |.field t x f=>match zaU P t f,ev x with
  |some fd,.agg cs=>match zen P fd.type cs fd.offset with
   |some v=>some (true,v)
   |none=>none
  |_,_=>none
 |.indexAddr t x i=>match P.underlying t,un (ev x),ev i with
  |some (.slice elem),.rw j,.int _ n=>match zG P elem,hget h j with
   |some z,some o=>some (inIx n (lenO o),.ep j z n 0)
   |_,_=>none
  |some (.slice elem),.rws j z' c m,.int _ n=>match zG P elem with
   |some z=>match Nat.beq z z' with
    |true=>some (decide (0≤n)&&decide (n<m),.ep j z (c+n) 0)
    |false=>none
   |none=>none
  |some (.slice elem),.rob _ l,.int _ n=>match zG P elem with
   |some 1=>some (inIx n l.length,.rp (.int .u8 (byteAt l n)))
   |_=>none
  |some (.slice elem),.ros _ l,.int _ n=>match zG P elem with
   |some 1=>some (inIx n l.length,.rp (.str (atS l n)))
   |_=>none
  |some (.slice elem),.roi _ k l,.int _ n=>match zG P elem with
   |some 1=>some (inIx n l.length,.rp (.int k (atI l n)))
   |_=>none
  |some (.array len elem),.rp (.agg cs),.int _ n=>match P.underlying elem,zG P elem,Nat.beq len cs.length with
   |some (.int k),some 1,true=>match cs.all (zb0 k)with
    |true=>some (inIx n cs.length,.rp (.int k (zeY (atV cs n))))
    |false=>none
   |_,_,_=>none
  |some (.array len elem),.ptr j o,.int _ (.ofNat n)=>match zG P elem,Nat.blt n len with
   |some z,true=>some (true,.ptr j (o+n*z))
   |_,_=>none
  |_,_,_=>none
 |.build t parts=>match znq P t (Wr ev parts.toList)with
  |some v=>some (true,v)
  |none=>none
 |.call {callee:=.builtin .len,args,argTypes}=>match argTypes.toList,args.toList with
  |[t],[x]=>match P.underlying t,un (ev x)with
   |some .string,.str l=>some (true,.int .i64 (l.length:Int))
   |some (.slice _),v=>match zis h v with
    |some n=>some (true,.int .i64 n)
    |none=>none
   |some (.array n _),_=>some (true,.int .i64 (n:Int))
   |_,_=>none
  |_,_=>none
 |.call {callee:=.builtin .cap,args,argTypes}=>match argTypes.toList,args.toList with
  |[t],[x]=>match P.underlying t,ev x with
   |some (.slice _),.nils=>some (true,.int .i64 0)
   |some (.slice _),.rob true l=>some (true,.int .i64 (l.length:Int))
   |some (.slice _),.rwp i=>match hget h i with
    |some _=>some (true,.pos .i64)
    |none=>none
   |some (.slice _),.rwf i=>match hget h i with
    |some o=>some (true,.int .i64 (lenO o:Int))
    |none=>none
   |_,_=>none
  |_,_=>none
 |_=>none
def ZE(h:Heap):AV→Option (List UInt8)
 |.rob _ l=>some l
 |.nils=>some []
 |.rw i=>match hget h i with
  |some (.bytes _ l)=>some l
  |_=>none
 |.rwp i=>match hget h i with
  |some (.bytes _ l)=>some l
  |_=>none
 |.rws i 1 c n=>match hget h i with
  |some (.bytes _ l)=>some (Vc.sub l c (c+n))
  |_=>none
 |_=>none
inductive MA where
 |val (v:AV)
 |row (o:AO)
def jd(a b:Int):Int:=if b>a then b else a
def Vq(a b:Int):Int:=if b<a then b else a
def XO(bytes:Nat):Int→Bool
 |.ofNat n=>Nat.ble (bytes*n) 281474976710656&&Nat.ble n 9223372036854775807
 |_=>false
def ztH(P:Program)(e:TypeId)(n:Int):Option (Nat×AO):=match P.info? e with
 |some i=>match i.zero,Nat.beq i.size 1,P.underlying e with
  |some (.int .u8 0),true,some (.int .u8)=>some (i.bytes,.bytes e (List.replicate n.toNat 0))
  |some (.int k 0),true,some (.int k')=>match kEq k k' with
   |true=>some (i.bytes,.ints e k (List.replicate n.toNat 0))
   |false=>none
  |_,_,_=>none
 |none=>none
def zcA(h:Heap):AV→Bool
 |.rw i=>match hget h i with
  |some (.bytes _ (_::_))=>true
  |_=>false
 |_=>false
def j3(P:Program)(h:Heap)(ev:Operand→AV)(op:Op):Option (Bool×MA):=match op with
 |.convert src dst x=>match P.underlying src,P.underlying dst,ev x with
  |some .string,some (.slice el),.str l=>match P.underlying el with
   |some (.int .u8)=>some (true,.row (.bytes el l))
   |_=>none
  |some (.slice el),some .string,_=>match P.underlying el,ZE h (ev x)with
   |some (.int .u8),some l=>some (true,.val (.str l))
   |_,_=>none
  |some (.slice el),some (.slice _),_=>match Nat.beq src dst,P.underlying el,zcA h (ev x)with
   |true,some (.int .u8),true=>some (true,.val (ev x))
   |_,_,_=>none
  |_,_,_=>none
 |.slice t x lo hi none=>match P.underlying t with
  |some (.slice e)=>match zG P e with
   |some z=>match XE h z (ev x) (lo.map ev) (hi.map ev)with
    |some (c,v)=>some (c,.val v)
    |none=>none
   |none=>none
  |_=>none
 |.slice t x lo hi (some m)=>match P.underlying t with
  |some (.slice e)=>match zG P e with
   |some z=>match zr2 z (ev x) (lo.map ev) (hi.map ev) (ev m)with
    |some (c,v)=>some (c,.val v)
    |none=>none
   |none=>none
  |_=>none
 |.call {callee:=.builtin .max,args,..}=>match args.toList with
  |[x,y]=>match ev x,ev y with
   |.int k a,.int _ b=>some (true,.val (.int k (jd a b)))
   |_,_=>none
  |[x,y,z]=>match ev x,ev y,ev z with
   |.int k a,.int _ b,.int _ c=>some (true,.val (.int k (jd (jd a b) c)))
   |_,_,_=>none
  |_=>none
 |.call {callee:=.builtin .min,args,..}=>match args.toList with
  |[x,y]=>match ev x,ev y with
   |.int k a,.int _ b=>some (true,.val (.int k (Vq a b)))
   |_,_=>none
  |_=>none
 |.makeSlice t a b=>match P.underlying t,ev a,ev b with
  |some (.slice e),.int _ n,.int _ m=>match ztH P e n with
   |some (by_,o)=>match a with
    |.const _=>some (XO by_ m&&(decide (0≤n)&&decide (n≤m)),.row o)
    |_=>some (XO by_ n&&decide (m=n),.row o)
   |none=>none
  |_,_,_=>none
 |_=>none
def yC(P:Program)(h:Heap)(ev:Operand→AV)(op:Op):Option (Bool×MA):=j3 P h (fun x=>un (ev x)) op
def zsY:AV→Bool
 |.undef=>true
 |_=>false
def zrp:Glob→Bool
 |[]=>false
 |(_,v)::r=>zsY v||zrp r
def newV(gl:Glob)(op:Op)(nid:Nat):AV:=match op with
 |.makeSlice _ (.tmp _) _=>cond (zrp gl) (.rwf nid) (.rw nid)
 |_=>.rw nid
def tyO:AO→TypeId
 |.bytes T _|.ints T _ _|.strs T _|.vals T _ _=>T
 |_=>0
def zOf:AO→Nat
 |.vals _ z _=>z
 |_=>1
def zt2(P:Program)(h:Heap)(tx:TypeId)(x:AV):Option AO:=match P.underlying tx,x with
 |some .string,.str l=>some (.bytes 0 l)
 |some (.slice _),.rob _ l=>some (.bytes 0 l)
 |some (.slice _),.roi _ k l=>some (.ints 0 k l)
 |some (.slice _),.ros _ l=>some (.strs 0 l)
 |some (.slice _),.rw i=>match hget h i with
  |some (.bytes T l)=>some (.bytes T l)
  |some (.ints T k l)=>some (.ints T k l)
  |some (.strs T l)=>some (.strs T l)
  |_=>none
 |_,_=>none
def zff(P:Program)(e:TypeId)(z:Nat):Option AO:=match P.underlying e with
 |some (.int .u8)=>some (.bytes e [])
 |some (.int k)=>some (.ints e k [])
 |some .string=>some (.strs e [])
 |some (.struct _)|some (.func _ _ _)=>some (.vals e z [])
 |_=>none
def zpS(o o':AO):Option AO:=match o,o' with
 |.bytes T l,.bytes _ l'=>some (.bytes T (l++l'))
 |.ints T k l,.ints _ k' l'=>match kEq k k' with
  |true=>some (.ints T k (l++l'))
  |false=>none
 |.strs T l,.strs _ l'=>some (.strs T (l++l'))
 |.vals T z l,.vals _ z' l'=>match Nat.beq z z' with
  |true=>some (.vals T z (l++l'))
  |false=>none
 |_,_=>none
def zt(bytes n:Nat):Bool:=Nat.ble (n*bytes) 140737488355328&&Nat.ble n 9223372036854775807
def zkO(P:Program)(h:Heap)(t tx:TypeId)(s x:AV):Option (Bool×Option Nat×AO):=match P.underlying t with
 |some (.slice e)=>match P.info? e with
  |some i=>match i.zero,zt2 P h tx x with
   |some zv,some o'=>match Nat.beq zv.cells.size i.size,Nat.ble 1 i.size,Nat.beq (zOf o') i.size with
    |true,true,true=>match s with
     |.nils=>match zff P e i.size with
      |some o=>match zpS o o' with
       |some o2=>some (zt i.bytes (lenO o2),none,o2)
       |none=>none
      |none=>none
     |.rw j=>match hget h j with
      |some o=>match zpS o o',Nat.beq (tyO o) e with
       |some o2,true=>some (zt i.bytes (lenO o2),some j,o2)
       |_,_=>none
      |none=>none
     |.rwp j=>match hget h j with
      |some o=>match zpS o o',Nat.beq (tyO o) e with
       |some o2,true=>some (zt i.bytes (lenO o2),some j,o2)
       |_,_=>none
      |none=>none
     |_=>none
    |_,_,_=>none
   |_,_=>none
  |none=>none
 |_=>none
def zqu(h:Heap):AV→Option (List UInt8)
 |.str l=>some l
 |v=>ZE h v
def zne(h:Heap):AV→Option (Nat×TypeId×List UInt8×Nat×Nat)
 |.rw i=>match hget h i with
  |some (.bytes T l)=>some (i,T,l,0,l.length)
  |_=>none
 |.rws i 1 c n=>match hget h i with
  |some (.bytes T l)=>some (i,T,l,c.toNat,n.toNat)
  |_=>none
 |_=>none
def yG(l s:List UInt8)(o k:Nat):List UInt8:=l.take o++s.take k++l.drop (o+min s.length k)
def zcS(P:Program)(h:Heap)(t:TypeId)(d x:AV):Option (Nat×Nat×AO):=match P.underlying t with
 |some (.slice e)=>match zG P e,zne h d,zqu h x with
  |some 1,some (i,T,l,o,k),some s=>some (min s.length k,i,.bytes T (yG l s o k))
  |_,_,_=>none
 |_=>none
def zqF(s:AV)(i:Nat):AV:=match s with
 |.rwp _=>.rwp i
 |_=>.rw i
def yQ(s:List UInt8)(pos:Nat):Int:=((Utf8.decode (bs s) pos).1:Int)
def widthAt(s:List UInt8)(pos:Nat):Nat:=(Utf8.decode (bs s) pos).2
end Go.Am
