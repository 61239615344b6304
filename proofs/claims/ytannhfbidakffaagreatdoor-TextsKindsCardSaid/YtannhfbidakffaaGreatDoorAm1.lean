/-
  A part of the proof of the laws.
-/
import Derived.Test.YtannhfbidakffaaGreatDoorVb
namespace Go.Am
open Go Go.RowKit Go.Vc
inductive AV where
 |undef
 |int (k:IntKind) (n:Int)
 |bool (b:Bool)
 |str (l:uAU)
 |nilp
 |nilf
 |nili
 |nilm
 |nils
 |ptr (i off:Nat)
 |ep (i sz:Nat) (idx:Int) (off:Nat)
 |rp (v:AV)
 |rw(i:Nat)
 |rwp (i:Nat)
 |rwf (i:Nat)
 |pos (k:IntKind)
 |rws (i sz:Nat) (lo len:Int)
 |rwc (i sz:Nat) (lo len:Int)
 |rob (full:Bool) (l:uAU)
 |roi (full:Bool) (k:IntKind) (l:List Int)
 |ros (full:Bool) (l:List uAU)
 |rov (full:Bool) (sz:Nat) (l:List AV)
 |fn (f:FuncId) (first cap:List AV)
 |fns (n:Int) (fs:List FuncId)
 |agg (cs:List AV)
 |tup (vs:List AV)
 |iface (t:TypeId) (v:AV)
 |map (i:Nat)
inductive AO where
 |cells (T:TypeId) (cs:List AV)
 |bytes (T:TypeId) (l:uAU)
 |ints (T:TypeId) (k:IntKind) (l:List Int)
 |strs (T:TypeId) (l:List uAU)
 |vals (T:TypeId) (sz:Nat) (l:List AV)
 |gens (T:TypeId) (ag:Bool) (sz n:Nat) (cs:List AV)
 |iter (s:uAU) (pos:Nat)
 |mp (l:List (AV×AV))
abbrev Slots:=List (Nat×AV)
abbrev Heap:=List (Option AO)
structure St where
 s:Slots
 h:Heap
def get:Slots->Nat->AV
 |[],_=>.undef
 |(t,v)::r,x=>match Nat.beq t x with
  |true=>v
  |false=>get r x
def put(d:Nat)(v:AV):Slots->Slots
 |[]=>[(d,v)]
 |(t,u)::r=>match Nat.beq d t with
  |true=>(d,v)::r
  |false=>match Nat.ble d t with
   |true=>(d,v)::(t,u)::r
   |false=>(t,u)::put d v r
def putO(d:Option Nat)(v:AV)(s:Slots):Slots:=match d with
 |some d=>put d v s
 |none=>s
def hget(h:Heap)(i:Nat):Option AO:=match h[i]? with
 |some (some o)=>some o
 |_=>none
def chk{α:Type}(c:Bool)(x:Option α):Option α:=match c with
 |true=>x
 |false=>none
def bnd{α β:Type}(x:Option α)(f:α->Option β):Option β:=match x with
 |some v=>f v
 |none=>none
theorem zm{α:Type}{c:Bool}{x:Option α}{r:α}(h:chk c x=some r):c=true/\x=some r:=by
 cases c
 ·cases h
 ·exact⟨rfl,h⟩
theorem zc8{α β:Type}{x:Option α}{f:α->Option β}{r:β}(h:bnd x f=some r):∃v,x=some v/\f v=some r:=by
 cases x with
 |none=>cases h
 |some v=>exact⟨v,rfl,h⟩
@[simp] theorem za{α:Type}(x:Option α):chk true x=x:=rfl
@[simp] theorem zc{α β:Type}(v:α)(f:α->Option β):bnd (some v) f=f v:=rfl
@[simp] theorem zEW{α β:Type}(f:α->Option β):bnd none f=none:=rfl
def inKb(k:IntKind)(n:Int):Bool:=match n with
 |.ofNat m=>Nat.ble m k.max.toNat
 |.negSucc m=>Nat.ble (m+1) (-k.min).toNat
theorem yq{k:IntKind}{n:Int}:inKb k n=true↔inK k n:=by
 have j:k.min<=0:=by cases k<;>decide
 have B:0<=k.max:=by cases k<;>decide
 unfold inKb inK;cases n with
 |ofNat m=>simp only[uAQ,uAT];omega
 |negSucc m=>simp only[uAQ];omega
def zf(n:Int):Bool:=decide (0<=n)
def inIx(i:Int)(len:Nat):Bool:=decide (0<=i)&&decide (i<(len:Int))
def zk(j hi:Int)(len:Nat):Bool:=decide (0<=j)&&decide (j<=hi)&&decide (hi<=(len:Int))
def zrI(k:IntKind)(n:Int):Bool×AV:=match k.signed with
 |true=>(inKb k n,.int k n)
 |false=>(true,.int k (k.wrap n))
def zoU(v:AV):Int:=match v with
 |.int _ n=>n
 |_=>0
def zEq(v:AV):uAU:=match v with
 |.str l=>l
 |_=>[]
def zD9(v:AV):Bool:=match v with
 |.bool b=>b
 |_=>false
def ziB(v:AV)(i:Nat):AV:=match v with
 |.agg cs=>match cs[i]? with
  |some c=>c
  |none=>.undef
 |v=>v
def bytesOf(v:AV):uAU:=match v with
 |.rob _ l=>l
 |_=>[]
def atS(l:List uAU)(i:Int):uAU:=l.getD i.toNat []
def atI(l:List Int)(i:Int):Int:=l.getD i.toNat 0
def atV(l:List AV)(i:Int):AV:=l.getD i.toNat .undef
def zdV(k:IntKind):AV->Bool
 |.int j _=>kEq k j
 |_=>false
def zrg:Value->AV
 |.int k n=>.int k n
 |.bool b=>.bool b
 |.string s=>.str (bl s)
 |.pointer none=>.nilp
 |.nilFunc=>.nilf
 |.nilIface=>.nili
 |.map none=>.nilm
 |.slice none 0 0=>.nils
 |.func (.func f) first cap=>match first.toList,cap.toList with
  |[],[]=>.fn f [] []
  |_,_=>.undef
 |_=>.undef
def ofV:Value->AV
 |.agg cs=>.agg (cs.toList.map zrg)
 |v=>zrg v
abbrev Glob:=List (Nat×AV)
def jU:Glob->Nat->AV
 |[],_=>.undef
 |(g,v)::r,x=>match Nat.beq g x with
  |true=>.rp v
  |false=>jU r x
def opnd(gl:Glob)(s:Slots):Operand->AV
 |.const v=>ofV v
 |.global g=>jU gl g
 |.func f=>.fn f [] []
 |.tmp t=>get s t
def Vm(P:Program)(t:TypeId)(cs:List AV)(off:Nat):Option AV:=
 match zB P t,zK P t with
 |some true,some n=>match Nat.ble (off+n) cs.length with
  |true=>some (.agg ((cs.drop off).take n))
  |false=>none
 |some false,some 1=>cs[off]?
 |_,_=>none
def zEU(op:BinOp)(a b:Int):Option Bool:=
 match op with
 |.eql=>some (decide (a=b))
 |.neq=>some (!decide (a=b))
 |.lss=>some (decide (a<b))
 |.leq=>some (decide (a<=b))
 |.gtr=>some (decide (b<a))
 |.geq=>some (decide (b<=a))
 |_=>none
def zsu(op:BinOp)(k:IntKind)(a b:Int):Option (Bool×AV):=
 match op with
 |.add=>some (zrI k (a+b))
 |.sub=>some (zrI k (a-b))
 |.mul=>some (zrI k (a*b))
 |.quo=>some (zf a&&decide (0<b)&&inKb k (a/b),.int k (a/b))
 |.rem=>some (zf a&&decide (0<b),.int k (a%b))
 |.and=>some (true,.int k (bits .and k a b))
 |.or=>some (true,.int k (bits .or k a b))
 |.xor=>some (true,.int k (bits .xor k a b))
 |_=>match zEU op a b with
  |some c=>some (true,.bool c)
  |none=>none
def zY(a b:uAU):Bool:=Nat.ble (a.length+b.length) 9223372036854775807
theorem XA{a b:uAU}:zY a b=true↔((a.length:Int)+b.length)<=9223372036854775807:=by unfold zY;rw[uAQ];omega
def znf(op:BinOp)(a b:uAU):Option (Bool×AV):=
 match op with
 |.add=>some (zY a b,.str (a++b))
 |.eql=>some (true,.bool (decide (a=b)))
 |.neq=>some (true,.bool (!decide (a=b)))
 |.lss=>some (true,.bool (Op.bytesLess a b))
 |.leq=>some (true,.bool (Op.bytesLess a b||decide (a=b)))
 |.gtr=>some (true,.bool (!(Op.bytesLess a b||decide (a=b))))
 |.geq=>some (true,.bool (!(Op.bytesLess a b)))
 |_=>none
def zmR(P:Program):List Field->Nat->List AV->List AV->Option Bool
 |[],_,[],[]=>some true
 |f::r,n,x::xs,y::ys=>match Nat.beq f.offset n,f.name== "_",zK P f.type,zmR P r (n+1) xs ys with
  |true,false,some 1,some c=>match P.underlying f.type,x,y with
   |some .bool,.bool a,.bool b=>some (decide (a=b)&&c)
   |some (.int _),.int k a,.int k' b=>match kEq k k' with
    |true=>some (decide (a=b)&&c)
    |false=>none
   |some .string,.str a,.str b=>some (decide (a=b)&&c)
   |_,_,_=>none
  |_,_,_,_=>none
 |_,_,_,_=>none
def eq1(P:Program)(t:TypeId)(x y:AV):Option Bool:=match P.underlying t,x,y with
 |some .bool,.bool a,.bool b=>some (decide (a=b))
 |some (.int _),.int k a,.int j b=>match kEq k j with
  |true=>some (decide (a=b))
  |false=>none
 |some .string,.str a,.str b=>some (decide (a=b))
 |_,_,_=>none
def zvA(P:Program):List Field->Nat->List AV->List AV->Option Bool
 |[],_,[],[]=>some true
 |f::r,n,xs,ys=>match Nat.beq f.offset n,f.name== "_",zK P f.type,P.underlying f.type with
  |true,false,some (k+1),some (.struct gs)=>match P.stoodInHeld f.type,Nat.ble (k+1) xs.length,Nat.ble (k+1) ys.length,zmR P gs.toList 0 (xs.take (k+1)) (ys.take (k+1)),zvA P r (n+(k+1)) (xs.drop (k+1)) (ys.drop (k+1))with
   |false,true,true,some b,some c=>some (b&&c)
   |_,_,_,_,_=>none
  |true,false,some 1,some _=>match xs,ys with
   |x::xr,y::yr=>match eq1 P f.type x y,zvA P r (n+1) xr yr with
    |some b,some c=>some (b&&c)
    |_,_=>none
   |_,_=>none
  |_,_,_,_=>none
 |_,_,_,_=>none
def zpi(P:Program)(F:List Field->List AV->List AV->Bool->Option Bool):List Field->Nat->List AV->List AV->Bool->Option Bool
 |[],_,[],[],c=>some c
 |f::r,n,xs,ys,c=>match Nat.beq f.offset n,f.name== "_",zK P f.type,P.underlying f.type with
  |true,false,some (k+1),some (.struct gs)=>match P.stoodInHeld f.type,Nat.ble (k+1) xs.length,Nat.ble (k+1) ys.length,zpi P F r (n+(k+1)) (xs.drop (k+1)) (ys.drop (k+1)) c with
   |false,true,true,some d=>F gs.toList (xs.take (k+1)) (ys.take (k+1)) d
   |_,_,_,_=>none
  |true,false,some 1,some _=>match xs,ys with
   |x::xr,y::yr=>match eq1 P f.type x y,zpi P F r (n+1) xr yr c with
    |some b,some d=>some (b&&d)
    |_,_=>none
   |_,_=>none
  |_,_,_,_=>none
 |_,_,_,_,_=>none
def zES(P:Program)(fs:List Field)(xs j:List AV):Option Bool:=zpi P (fun B xs j c=>zpi P (fun B xs j c=>zpi P (fun _ _ _ _=>none) B 0 xs j c) B 0 xs j c) fs 0 xs j true
def zyv(P:Program)(t:TypeId)(xs j:List AV):Option Bool:=
 match P.underlying t,P.eqGuardType P.depth t,P.stoodInHeld t with
 |some (.struct fs),false,false=>match zmR P fs.toList 0 xs j with
  |some b=>some b
  |none=>match zvA P fs.toList 0 xs j with
   |some b=>some b
   |none=>zES P fs.toList xs j
 |_,_,_=>none
def zh2:AV->Option (Bool×Bool)
 |.nils=>some (true,true)
 |.rwp _|.rwf _=>some (true,false)
 |.rob _ l=>some (Nat.ble 1 l.length,false)
 |.roi _ _ l=>some (Nat.ble 1 l.length,false)
 |.ros _ l=>some (Nat.ble 1 l.length,false)
 |.rov _ _ l=>some (Nat.ble 1 l.length,false)
 |.rws _ _ _ n|.rwc _ _ _ n=>some (decide (0<n),false)
 |_=>none
def zEa(P:Program)(op:BinOp)(t:TypeId)(x y:AV):Option (Bool×AV):=
 match x,y with
 |.pos k,.int j b=>match kEq k j,op,decide (b<=0)with
  |true,.eql,true=>some (true,.bool false)
  |true,.neq,true=>some (true,.bool true)
  |_,_,_=>none
 |.int k a,.int j b=>match op with
  |.shl=>some (zf b&&Nat.ble b.toNat k.bits,.int k (k.wrap (a*2^b.toNat)))
  |.shr=>some (zf b&&Nat.ble b.toNat k.bits,.int k (a/2^b.toNat))
  |op=>match kEq k j with
   |true=>zsu op k a b
   |false=>none
 |.str a,.str b=>znf op a b
 |.bool a,.bool b=>match P.underlying t,op with
  |some .bool,.eql=>some (true,.bool (decide (a=b)))
  |some .bool,.neq=>some (true,.bool (!decide (a=b)))
  |_,_=>none
 |.agg xs,.agg B=>match op,zyv P t xs B with
  |.eql,some c=>some (true,.bool c)
  |.neq,some c=>some (true,.bool (!c))
  |_,_=>none
 |x,.nils=>match P.underlying t,op,zh2 x with
  |some (.slice _),.eql,some (c,b)=>some (c,.bool b)
  |some (.slice _),.neq,some (c,b)=>some (c,.bool (!b))
  |_,_,_=>none
 |_,_=>none
def zCI(P:Program)(op:BinOp)(t:TypeId)(x:AV):Option (Bool×AV):=
 match P.underlying t,op,x with
 |some (.interface _),.eql,.nili=>some (true,.bool true)
 |some (.interface _),.neq,.nili=>some (true,.bool false)
 |some (.interface _),.eql,.iface _ _=>some (true,.bool false)
 |some (.interface _),.neq,.iface _ _=>some (true,.bool true)
 |_,_,_=>none
def zDb(l:uAU):Option AV->Option AV->Option (Bool×AV)
 |none,none=>some (true,.str l)
 |some (.int _ j),none=>some (zk j l.length l.length,.str (zO l j))
 |none,some (.int _ hi)=>some (zk 0 hi l.length,.str (jy l hi))
 |some (.int _ j),some (.int _ hi)=>some (zk j hi l.length,.str (Vc.sub l j hi))
 |_,_=>none
def setL(cs:List AV)(off:Nat)(vs:List AV):List AV:=cs.take off++vs++cs.drop (off+vs.length)
def cellsA:AV->List AV
 |.agg cs=>cs
 |v=>[v]
def jb:AV->Bool
 |.undef|.agg _|.tup _=>false
 |_=>true
def zii(j:Nat->Option (Nat×Nat))(cs:List AV):List (Nat×AV)->Option (List AV)
 |[]=>some cs
 |(i,v)::r=>match j i with
  |none=>none
  |some (off,n)=>match Nat.beq (cellsA v).length n,Nat.ble (off+n) cs.length,(cellsA v).all jb with
   |true,true,true=>zii j (setL cs off (cellsA v)) r
   |_,_,_=>none
def zjE(P:Program)(t:TypeId):Option (List AV):=
 match znr P t with
 |some cs=>some (cs.map zrg)
 |none=>none
def zsk(P:Program)(t:TypeId)(B:List (Nat×AV)):Option AV:=
 match P.underlying t,zjE P t with
 |some (.struct H),some z=>match WN P H.toList with
  |some places=>match zii (fun j=>places[j]?) z B with
   |some cs=>some (.agg cs)
   |none=>none
  |none=>none
 |some (.array _ elem),some z=>match zK P elem with
  |some n=>match zii (fun j=>some (j*n,n)) z B with
   |some cs=>some (.agg cs)
   |none=>none
  |none=>none
 |_,_=>none
def zrx:AV->Bool
 |.rob _ _=>true
 |.nils=>true
 |_=>false
def zrw(k:IntKind):AV->Bool
 |.roi _ j _=>kEq k j
 |.nils=>true
 |_=>false
def zDP(v:AV):List Int:=match v with
 |.roi _ _ l=>l
 |_=>[]
def zrv(n:Nat):AV->Bool
 |.rov _ z _=>Nat.beq z n
 |.nils=>true
 |_=>false
def zEv(v:AV):List AV:=match v with
 |.rov _ _ l=>l
 |_=>[]
def zs0(v:AV):Option (Bool×AV):=match v with
 |.rov f z l=>some (true,.rov f z l)
 |.ros f l=>some (true,.ros f l)
 |.nils=>some (true,.nils)
 |_=>none
def zkj(P:Program)(j:Bool)(t:TypeId)(v:AV):Option (Bool×AV):=
 match P.underlying t with
 |some (.int k)=>some (zdV k v,.int k (zoU v))
 |some .string=>some (match v with|.str _=>true|_=>false,.str (zEq v))
 |some .bool=>some (match v with|.bool _=>true|_=>false,.bool (zD9 v))
 |some (.func _ _ _)=>match v with
  |.fn f a c=>some (true,.fn f a c)
  |_=>none
 |some (.slice e)=>match P.underlying e with
  |some (.int .u8)=>some (zrx v,.rob false (bytesOf v))
  |some (.int k)=>some (zrw k v,.roi false k (zDP v))
  |some (.struct _)=>match j with
   |true=>match zK P e with
    |some n=>some (zrv n v,.rov false n (zEv v))
    |none=>none
   |false=>zs0 v
  |_=>zs0 v
 |_=>none
def zcv(P:Program)(j:Bool)(e:TypeId)(v:AV):Nat->Nat->Option (Bool×List AV)
 |0,_=>some (true,[])
 |n+1,k=>match zkj P j e (ziB v k),zcv P j e v n (k+1)with
  |some (c,x),some (d,xs)=>some (c&&d,x::xs)
  |_,_=>none
def zyi(P:Program):Nat->List Field->Nat->Option (List (Nat×TypeId))
 |0,_,_=>none
 |_+1,[],_=>some []
 |n+1,f::r,b=>match P.underlying f.type,zyi P n r b with
  |some (.struct j),some l=>match zyi P n j.toList (b+f.offset)with
   |some m=>some (m++l)
   |none=>none
  |some _,some l=>some ((b+f.offset,f.type)::l)
  |_,_=>none
def zcw(P:Program)(j:Bool)(v:AV):List (Nat×TypeId)->Nat->Option (Bool×List AV)
 |[],_=>some (true,[])
 |f::r,n=>match Nat.beq f.1 n,zkj P j f.2 (ziB v n),zcw P j v r (n+1)with
  |true,some (c,x),some (d,xs)=>some (c&&d,x::xs)
  |_,_,_=>none
def zx0(v:AV)(n:Nat):Bool:=match v with
 |.agg cs=>Nat.beq cs.length n
 |_=>false
def zhd(P:Program)(j:Bool)(t:TypeId)(v:AV):Option (Bool×AV):=
 match P.underlying t with
 |some (.struct fs)=>match zyi P 64 fs.toList 0 with
  |some l=>match zcw P j v l 0 with
   |some (c,xs)=>some (zx0 v xs.length&&c,.agg xs)
   |none=>none
  |none=>none
 |some (.array n e)=>match zcv P j e v n 0 with
  |some (c,xs)=>some (zx0 v xs.length&&c,.agg xs)
  |none=>none
 |_=>zkj P j t v
def lenO:AO->Nat
 |.bytes _ l=>l.length
 |.ints _ _ l=>l.length
 |.strs _ l=>l.length
 |.vals _ _ l=>l.length
 |.gens _ _ _ n _=>n
 |_=>0
def zml(h:Heap):AV->Option Int
 |.nils=>some 0
 |.rw i=>match hget h i with
  |some o=>some (lenO o:Int)
  |none=>none
 |.rwp i=>match hget h i with
  |some o=>some (lenO o:Int)
  |none=>none
 |.rws _ _ _ n=>some n
 |.rwc _ _ _ n=>some n
 |.rob _ l=>some (l.length:Int)
 |.roi _ _ l=>some (l.length:Int)
 |.ros _ l=>some (l.length:Int)
 |.rov _ _ l=>some (l.length:Int)
 |_=>none
def zx4:AV->AV->Option Bool
 |.int k a,.int j b=>match kEq k j with
  |true=>some (decide (a=b))
  |false=>none
 |.str a,.str b=>some (decide (a=b))
 |_,_=>none
def zeL(P:Program)(kt:TypeId)(x:AV):Bool:=match P.underlying kt,x with
 |some (.int k),.int j _=>kEq k j
 |some .string,.str _=>true
 |_,_=>false
def Y8{R:Type}(key:AV)(k:Option (Nat×AV)->Option R):List (AV×AV)->Nat->Option R
 |[],_=>k none
 |(x,v)::r,i=>match zx4 key x with
  |some b=>cond b (k (some (i,v))) (Y8 key k r (i+1))
  |none=>none
def zwc(P:Program)(t:TypeId):Option AV:=match P.info? t with
 |some i=>match i.zero with
  |some z=>some (ofV z)
  |none=>none
 |none=>none
def okV(ok:Bool)(v:AV)(b:Bool):AV:=match ok with
 |true=>.tup [v,.bool b]
 |false=>v
def WT(P:Program)(t:TypeId):Option (TypeId×TypeId):=match P.underlying t with
 |some (.map k e)=>some (k,e)
 |_=>none
def Jd(h:Heap):AV->Option (Nat×List (AV×AV))
 |.map i=>match hget h i with
  |some (.mp l)=>some (i,l)
  |_=>none
 |_=>none
def mapPut(l:List (AV×AV))(key v:AV):Option (Nat×AV)->List (AV×AV)
 |some (j,_)=>l.take j++(key,v)::l.drop (j+1)
 |none=>l++[(key,v)]
def subL{α:Type}(l:List α)(a b:Int):List α:=(l.take b.toNat).drop a.toNat
def bdI(d:Int):Option AV->Option Int
 |none=>some d
 |some (.int _ n)=>some n
 |_=>none
def K8(h:Heap)(z:Nat)(v:AV)(j hi:Option AV):Option (Bool×AV):=match v with
 |.rob _ l=>match Nat.beq z 1,bdI 0 j,bdI (l.length:Int) hi with
  |true,some a,some b=>some (zk a b l.length,.rob false (Vc.sub l a b))
  |_,_,_=>none
 |.rw i=>match hget h i with
  |some o=>match bdI 0 j,bdI (lenO o:Int) hi with
   |some a,some b=>some (zk a b (lenO o),.rws i z a (b-a))
   |_,_=>none
  |none=>none
 |.rws i B c n=>match Nat.beq z B,bdI 0 j,bdI n hi with
  |true,some a,some b=>some (decide (0<=a)&&decide (a<=b)&&decide (b<=n),.rws i z (c+a) (b-a))
  |_,_,_=>none
 |.rwc i B c n=>match Nat.beq z B,bdI 0 j,bdI n hi with
  |true,some a,some b=>some (decide (0<=a)&&decide (a<=b)&&decide (b<=n),.rws i z (c+a) (b-a))
  |_,_,_=>none
 |.ros _ l=>match Nat.beq z 1,bdI 0 j,bdI (l.length:Int) hi with
  |true,some a,some b=>some (zk a b l.length,.ros false (subL l a b))
  |_,_,_=>none
 |.roi _ k l=>match Nat.beq z 1,bdI 0 j,bdI (l.length:Int) hi with
  |true,some a,some b=>some (zk a b l.length,.roi false k (subL l a b))
  |_,_,_=>none
 |.rov _ B l=>match Nat.beq z B,bdI 0 j,bdI (l.length:Int) hi with
  |true,some a,some b=>some (zk a b l.length,.rov false z (subL l a b))
  |_,_,_=>none
 |.nils=>match bdI 0 j,bdI 0 hi with
  |some a,some b=>some (zk a b 0,.nils)
  |_,_=>none
 |_=>none
def zc6(h:Heap)(z:Nat)(v:AV)(B hi:Option AV)(m:AV):Option (Bool×AV):=match hi,m with
 |some (.int _ b),.int _ m=>match v,bdI 0 B with
  |.rob _ l,some a=>match Nat.beq z 1 with
   |true=>some (zk a b l.length&&decide (m=b),.rob true (Vc.sub l a b))
   |false=>none
  |.ros _ l,some a=>match Nat.beq z 1 with
   |true=>some (zk a b l.length&&decide (m=b),.ros true (subL l a b))
   |false=>none
  |.roi _ k l,some a=>match Nat.beq z 1 with
   |true=>some (zk a b l.length&&decide (m=b),.roi true k (subL l a b))
   |false=>none
  |.rov _ j l,some a=>match Nat.beq z j with
   |true=>some (zk a b l.length&&decide (m=b),.rov true z (subL l a b))
   |false=>none
  |.rw i,some a=>match hget h i with
   |some o=>some (zk a b (lenO o)&&decide (m=b),.rwc i z a (b-a))
   |none=>none
  |.rws i j c n,some a=>match Nat.beq z j with
   |true=>some (decide (0<=a)&&decide (a<=b)&&decide (b<=n)&&decide (m=b),.rwc i z (c+a) (b-a))
   |false=>none
  |.nils,some a=>some (zk a b 0&&decide (m=b),.nils)
  |_,_=>none
 |_,_=>none
def zap(ev:Operand->AV):List (Nat×Operand)->List (Nat×AV)
 |[]=>[]
 |(i,x)::r=>(i,ev x)::zap ev r
def zab(P:Program)(t:TypeId)(f:Nat):Option Field:=
 match P.underlying t with
 |some (.struct fs)=>fs[f]?
 |_=>none
def W4:AV->Bool
 |.bool _=>true
 |_=>false
def zlk(v:AV)(n:Nat)(j hi m:Option AV):Option (Bool×AV):=match v with
 |.rp (.agg cs)=>match Nat.beq cs.length n&&cs.all W4 with
  |true=>match j,hi,m with
   |none,some (.int _ b),none=>some (zk 0 b n,.rov false 1 (subL cs 0 b))
   |none,some (.int _ b),some (.int _ q)=>some (zk 0 b n&&decide (q=b),.rov true 1 (subL cs 0 b))
   |_,_,_=>none
  |false=>none
 |_=>none
def un:AV->AV
 |.rwf i=>.rw i
 |.rwc i z c n=>.rws i z c n
 |v=>v
def zrS(v:AV):Option AV:=match v with
 |.agg cs=>some (.rp (.agg cs))
 |v=>cond (jb v) (some (.rp v)) none
def zlO(P:Program)(t:TypeId)(cs:List AV)(off:Nat):Option AV:=
 match zB P t,zK P t with
 |some true,some n=>match Nat.ble (off+n) cs.length,Nat.ble 1 n with
  |true,true=>some (.rp (.agg ((cs.drop off).take n)))
  |_,_=>none
 |some false,some 1=>match cs[off]? with
  |some v=>cond (jb v) (some (.rp v)) none
  |none=>none
 |_,_=>none
def yC(P:Program)(h:Heap)(ev:Operand->AV)(op:Op):Option (Bool×AV):=
 match op with
 |.move x|.assign x=>some (true,ev x)
 |.binOp op t x y _=>match isK y,ev y with
  |true,.nili=>zCI P op t (ev x)
  |_,_=>zEa P op t (ev x) (ev y)
 |.unOp op _ x=>match op,ev x with
  |.not,.bool b=>some (true,.bool (!b))
  |.neg,.int k n=>some (zrI k (-n))
  |_,_=>none
 |.convert O dst x=>match P.underlying O,P.underlying dst,ev x with
  |some (.int _),some (.int k),.int _ n=>some (zrI k n)
  |some .string,some .string,.str l=>some (true,.str l)
  |_,_,_=>none
 |.extract x i=>match ev x with
  |.tup vs=>match vs[i]? with
   |some v=>some (true,v)
   |none=>none
  |_=>none
 |.nilCheck x=>match ev x with
  |.ptr i o=>some (true,.ptr i o)
  |.ep i z n o=>some (true,.ep i z n o)
  |.rp v=>some (true,.rp v)
  |.fn f first cap=>some (true,.fn f first cap)
  |.fns n fs=>some (true,.fns n fs)
  |_=>none
 |.makeFunc (.func f) first B=>some (true,.fn f (first.toList.map ev) (B.toList.map ev))
 |.index t x i=>match P.underlying t,ev x,ev i with
  |some .string,.str l,.int _ n=>some (inIx n l.length,.int .u8 (byteAt l n))
  |some (.array len elem),.agg cs,.int _ n=>match P.underlying elem,zK P elem,Nat.beq len cs.length with
   |some (.int k),some 1,true=>match cs.all (zdV k)with
    |true=>some (inIx n cs.length,.int k (zoU (atV cs n)))
    |false=>none
   |_,some z,_=>match n with
    |.ofNat m=>match Nat.blt m len,Vm P elem cs (m*z)with
     |true,some v=>some (true,v)
     |_,_=>none
    |.negSucc _=>none
   |_,_,_=>none
  |_,_,_=>none
 |.slice t x S hi none=>match P.underlying t,ev x,S.map ev,hi.map ev with
  |some .string,.str l,a,b=>zDb l a b
  |_,_,_,_=>none
 |.fieldAddr s x f=>match zab P s f,ev x with
  |some H,.ptr i o=>match zK P H.type with
   |some (_+1)=>some (true,.ptr i (o+H.offset))
   |_=>none
  |some H,.ep i z n o=>match zK P H.type with
   |some (_+1)=>some (true,.ep i z n (o+H.offset))
   |_=>none
  |some H,.rp (.agg cs)=>match zK P H.type,zlO P H.type cs H.offset with
   |some (_+1),some v=>some (true,v)
   |_,_=>none
  |_,_=>none
 |.field t x f=>match zab P t f,ev x with
  |some H,.agg cs=>match Vm P H.type cs H.offset with
   |some v=>some (true,v)
   |none=>none
  |_,_=>none
 |.indexAddr t x i=>match P.underlying t,un (ev x),ev i with
  |some (.slice elem),.rw j,.int _ n=>match zK P elem,hget h j with
   |some z,some o=>some (inIx n (lenO o),.ep j z n 0)
   |_,_=>none
  |some (.slice elem),.rws j J c m,.int _ n=>match zK P elem with
   |some z=>match Nat.beq z J with
    |true=>some (decide (0<=n)&&decide (n<m),.ep j z (c+n) 0)
    |false=>none
   |none=>none
  |some (.slice elem),.rob _ l,.int _ n=>match zK P elem with
   |some 1=>some (inIx n l.length,.rp (.int .u8 (byteAt l n)))
   |_=>none
  |some (.slice elem),.ros _ l,.int _ n=>match zK P elem with
   |some 1=>some (inIx n l.length,.rp (.str (atS l n)))
   |_=>none
  |some (.slice elem),.roi _ k l,.int _ n=>match zK P elem with
   |some 1=>some (inIx n l.length,.rp (.int k (atI l n)))
   |_=>none
  |some (.slice elem),.rov _ J l,.int _ n=>match zK P elem with
   |some z=>match Nat.beq z J with
    |true=>match zhd P true elem (atV l n)with
     |some (c,v)=>some (inIx n l.length&&c,.rp v)
     |none=>match zrS (atV l n)with
      |some v=>some (inIx n l.length,v)
      |none=>none
    |false=>none
   |none=>none
  |some (.array len elem),.rp (.agg cs),.int _ n=>match P.underlying elem,zK P elem,Nat.beq len cs.length with
   |some (.int k),some 1,true=>match cs.all (zdV k)with
    |true=>some (inIx n cs.length,.rp (.int k (zoU (atV cs n))))
    |false=>none
   |_,some z,_=>match n with
    |.ofNat m=>match Nat.blt m len,zlO P elem cs (m*z)with
     |true,some v=>some (true,v)
     |_,_=>none
    |.negSucc _=>none
   |_,_,_=>none
  |some (.array len elem),.ptr j o,.int _ (.ofNat n)=>match zK P elem,Nat.blt n len with
   |some z,true=>some (true,.ptr j (o+n*z))
   |_,_=>none
  |some (.array len elem),.ep j J m o,.int _ (.ofNat n)=>match zK P elem,Nat.blt n len with
   |some z,true=>some (true,.ep j J m (o+n*z))
   |_,_=>none
  |_,_,_=>none
 |.build t I=>match zsk P t (zap ev I.toList)with
  |some v=>some (true,v)
  |none=>none
 |.call {callee:=.builtin .len,args,argTypes}=>match argTypes.toList,args.toList with
  |[t],[x]=>match P.underlying t,un (ev x)with
   |some .string,.str l=>some (true,.int .i64 (l.length:Int))
   |some (.slice _),v=>match zml h v with
    |some n=>some (true,.int .i64 n)
    |none=>none
   |some (.array n _),_=>some (true,.int .i64 (n:Int))
   |_,_=>none
  |_,_=>none
 |.call {callee:=.builtin .cap,args,argTypes}=>match argTypes.toList,args.toList with
  |[t],[x]=>match P.underlying t,ev x with
   |some (.slice _),.nils=>some (true,.int .i64 0)
   |some (.slice _),.rob true l=>some (true,.int .i64 (l.length:Int))
   |some (.slice _),.roi true _ l=>some (true,.int .i64 (l.length:Int))
   |some (.slice _),.ros true l=>some (true,.int .i64 (l.length:Int))
   |some (.slice _),.rov true _ l=>some (true,.int .i64 (l.length:Int))
   |some (.slice _),.rwc _ _ _ n=>some (true,.int .i64 n)
   |some (.slice _),.rwp i=>match hget h i with
    |some _=>some (true,.pos .i64)
    |none=>none
   |some (.slice _),.rwf i=>match hget h i with
    |some o=>some (true,.int .i64 (lenO o:Int))
    |none=>none
   |_,_=>none
  |_,_=>none
 |_=>none
def zj2(h:Heap):AV->Bool
 |.rw i=>match hget h i with
  |some o=>Nat.blt 0 (lenO o)
  |none=>false
 |_=>false
def yT(h:Heap):AV->Option uAU
 |.rob _ l=>some l
 |.nils=>some []
 |.rw i=>match hget h i with
  |some (.bytes _ l)=>some l
  |_=>none
 |.rwp i=>match hget h i with
  |some (.bytes _ l)=>some l
  |_=>none
 |.rws i 1 c n=>match hget h i with
  |some (.bytes _ l)=>some (Vc.sub l c (c+n))
  |_=>none
 |_=>none
inductive MA where
 |val (v:AV)
 |row (o:AO)
def jF(a b:Int):Int:=if b>a then b else a
def zao(a b:Int):Int:=if b<a then b else a
def X3(bytes:Nat):Int->Bool
 |.ofNat n=>Nat.ble (bytes*n) 281474976710656&&Nat.ble n 9223372036854775807
 |_=>false
def zBq:Nat->List AV->List AV
 |0,_=>[]
 |n+1,cs=>cs++zBq n cs
def zCB(P:Program)(e:TypeId)(n:Int):Option (Nat×AO):=match P.info? e with
 |some i=>match i.zero,Nat.beq i.size 1,P.underlying e with
  |some (.int .u8 0),true,some (.int .u8)=>some (i.bytes,.bytes e (List.replicate n.toNat 0))
  |some (.int k 0),true,some (.int H)=>match kEq k H with
   |true=>some (i.bytes,.ints e k (List.replicate n.toNat 0))
   |false=>none
  |some j,_,_=>match Nat.ble 1 i.size,Nat.beq j.cells.size i.size,zB P e with
   |true,true,some B=>some (i.bytes,.gens e B i.size n.toNat (zBq n.toNat (j.cells.toList.map zrg)))
   |_,_,_=>none
  |_,_,_=>none
 |none=>none
def zeC(h:Heap):AV->Bool
 |.rw i=>match hget h i with
  |some (.bytes _ (_::_))=>true
  |_=>false
 |_=>false
def j7(P:Program)(h:Heap)(ev:Operand->AV)(op:Op):Option (Bool×MA):=match op with
 |.convert H dst x=>match P.underlying H,P.underlying dst,ev x with
  |some .string,some (.slice j),.str l=>match P.underlying j with
   |some (.int .u8)=>some (true,.row (.bytes j l))
   |_=>none
  |some (.slice j),some .string,_=>match P.underlying j,yT h (ev x)with
   |some (.int .u8),some l=>some (true,.val (.str l))
   |_,_=>none
  |some (.slice j),some (.slice _),_=>match Nat.beq H dst,P.underlying j,zeC h (ev x)with
   |true,some (.int .u8),true=>some (true,.val (ev x))
   |_,_,_=>none
  |_,_,_=>none
 |.slice t x B hi none=>match P.underlying t with
  |some (.slice e)=>match zK P e with
   |some z=>match K8 h z (ev x) (B.map ev) (hi.map ev)with
    |some (c,v)=>some (c,.val v)
    |none=>none
   |none=>none
  |some (.array k e)=>match zK P e with
   |some 1=>match zlk (ev x) k (B.map ev) (hi.map ev) none with
    |some (c,v)=>some (c,.val v)
    |none=>none
   |_=>none
  |_=>none
 |.slice t x B hi (some m)=>match P.underlying t with
  |some (.slice e)=>match zK P e with
   |some z=>match zc6 h z (ev x) (B.map ev) (hi.map ev) (ev m)with
    |some (c,v)=>some (c,.val v)
    |none=>none
   |none=>none
  |some (.array k e)=>match zK P e with
   |some 1=>match zlk (ev x) k (B.map ev) (hi.map ev) (some (ev m))with
    |some (c,v)=>some (c,.val v)
    |none=>none
   |_=>none
  |_=>none
 |.call {callee:=.builtin .max,args,..}=>match args.toList with
  |[x,y]=>match ev x,ev y with
   |.int k a,.int _ b=>some (true,.val (.int k (jF a b)))
   |_,_=>none
  |[x,y,z]=>match ev x,ev y,ev z with
   |.int k a,.int _ b,.int _ c=>some (true,.val (.int k (jF (jF a b) c)))
   |_,_,_=>none
  |_=>none
 |.call {callee:=.builtin .min,args,..}=>match args.toList with
  |[x,y]=>match ev x,ev y with
   |.int k a,.int _ b=>some (true,.val (.int k (zao a b)))
   |_,_=>none
  |_=>none
 |.makeSlice t a b=>match P.underlying t,ev a,ev b with
  |some (.slice e),.int _ n,.int _ m=>match zCB P e n with
   |some (by_,o)=>match a with
    |.const _=>some (X3 by_ m&&(decide (0<=n)&&decide (n<=m)),.row o)
    |_=>some (X3 by_ n&&decide (m=n),.row o)
   |none=>none
  |_,_,_=>none
 |.binOp I t x y _=>match ev y,I,zj2 h (ev x),P.underlying t with
  |.nils,.eql,true,some (.slice _)=>some (true,.val (.bool false))
  |.nils,.neq,true,some (.slice _)=>some (true,.val (.bool true))
  |_,_,_,_=>none
 |_=>none
def yK(P:Program)(h:Heap)(ev:Operand->AV)(op:Op):Option (Bool×MA):=j7 P h (fun x=>un (ev x)) op
def zBL:AV->Bool
 |.undef=>true
 |_=>false
def zyf:Glob->Bool
 |[]=>false
 |(_,v)::r=>zBL v||zyf r
def newV(gl:Glob)(op:Op)(nid:Nat):AV:=match op with
 |.makeSlice _ (.tmp _) _=>cond (zyf gl) (.rwf nid) (.rw nid)
 |_=>.rw nid
def tyO:AO->TypeId
 |.bytes T _|.ints T _ _|.strs T _|.vals T _ _|.gens T _ _ _ _=>T
 |_=>0
def zOf:AO->Nat
 |.vals _ z _=>z
 |.gens _ _ z _ _=>z
 |_=>1
def zeN:List AV->List AV
 |[]=>[]
 |.agg cs::r=>cs++zeN r
 |v::r=>v::zeN r
def VR(P:Program)(e:TypeId)(z:Nat):Option AO:=match P.underlying e with
 |some (.int .u8)=>some (.bytes e [])
 |some (.int k)=>some (.ints e k [])
 |some .string=>some (.strs e [])
 |some (.struct _)|some (.func _ _ _)|some (.array _ _)|some (.slice _)=>some (.vals e z [])
 |some _=>match zB P e with
  |some j=>some (.gens e j z 0 [])
  |none=>none
 |none=>none
def zBm(P:Program)(h:Heap)(tx:TypeId)(x:AV):Option AO:=match P.underlying tx,x with
 |some .string,.str l=>some (.bytes 0 l)
 |some (.slice _),.rob _ l=>some (.bytes 0 l)
 |some (.slice _),.roi _ k l=>some (.ints 0 k l)
 |some (.slice _),.ros _ l=>some (.strs 0 l)
 |some (.slice _),.rov _ z l=>some (.vals 0 z l)
 |some (.slice e),.nils=>match zK P e with
  |some z=>VR P e z
  |none=>none
 |some (.slice _),.rw i=>match hget h i with
  |some (.bytes T l)=>some (.bytes T l)
  |some (.ints T k l)=>some (.ints T k l)
  |some (.strs T l)=>some (.strs T l)
  |some (.vals T z l)=>some (.vals T z l)
  |some (.gens T j z n cs)=>some (.gens T j z n cs)
  |_=>none
 |some (.slice _),.rws i z c n=>match hget h i with
  |some (.bytes T l)=>match Nat.beq z 1 with
   |true=>some (.bytes T (subL l c (c+n)))
   |false=>none
  |some (.ints T k l)=>match Nat.beq z 1 with
   |true=>some (.ints T k (subL l c (c+n)))
   |false=>none
  |some (.strs T l)=>match Nat.beq z 1 with
   |true=>some (.strs T (subL l c (c+n)))
   |false=>none
  |some (.vals T B l)=>match Nat.beq z B with
   |true=>some (.vals T z (subL l c (c+n)))
   |false=>none
  |some (.gens T j B _ cs)=>match Nat.beq z B with
   |true=>some (.gens T j z n.toNat ((cs.drop (c.toNat*z)).take (n.toNat*z)))
   |false=>none
  |_=>none
 |_,_=>none
def zcl(o:AO):Bool:=match o with
 |.vals _ _ l=>(zeN l).all jb
 |_=>true
def zuI(P:Program)(h:Heap)(tx:TypeId)(x:AV):Option AO:=match zBm P h tx x with
 |some (.gens T j z n cs)=>cond (cs.all jb) (some (.gens T j z n cs)) none
 |o=>o
def zpM(o o':AO):Option AO:=match o,o' with
 |.bytes T l,.bytes _ H=>some (.bytes T (l++H))
 |.ints T k l,.ints _ O H=>match kEq k O with
  |true=>some (.ints T k (l++H))
  |false=>none
 |.strs T l,.strs _ H=>some (.strs T (l++H))
 |.vals T z l,.vals _ B H=>match Nat.beq z B with
  |true=>some (.vals T z (l++H))
  |false=>none
 |.gens T I z n cs,.gens _ _ B J j=>match Nat.beq z B with
  |true=>some (.gens T I z (n+J) (cs++j))
  |false=>none
 |.gens T I z n cs,.vals _ B l=>match Nat.beq z B with
  |true=>some (.gens T I z (n+l.length) (cs++zeN l))
  |false=>none
 |.vals T z l,.gens _ I B J j=>match Nat.beq z B with
  |true=>some (.gens T I z (l.length+J) (zeN l++j))
  |false=>none
 |_,_=>none
def je(bytes n:Nat):Bool:=Nat.ble (n*bytes) 140737488355328&&Nat.ble n 9223372036854775807
def zo0(P:Program)(h:Heap)(t tx:TypeId)(s x:AV):Option (Bool×Option Nat×AO):=match P.underlying t with
 |some (.slice e)=>match P.info? e with
  |some i=>match i.zero,zuI P h tx x with
   |some B,some o'=>match Nat.beq B.cells.size i.size,Nat.ble 1 i.size,Nat.beq (zOf o') i.size with
    |true,true,true=>match s with
     |.nils=>match VR P e i.size with
      |some o=>match zpM o o' with
       |some o2=>some (zcl o'&&je i.bytes (lenO o2),none,o2)
       |none=>none
      |none=>none
     |.rw j=>match hget h j with
      |some o=>match zpM o o',Nat.beq (tyO o) e with
       |some o2,true=>some (zcl o'&&je i.bytes (lenO o2),some j,o2)
       |_,_=>none
      |none=>none
     |.rwp j=>match hget h j with
      |some o=>match zpM o o',Nat.beq (tyO o) e with
       |some o2,true=>some (zcl o'&&je i.bytes (lenO o2),some j,o2)
       |_,_=>none
      |none=>none
     |_=>none
    |_,_,_=>none
   |_,_=>none
  |none=>none
 |_=>none
def zye:AV->Option AV
 |.rwf i=>some (.rw i)
 |.rwc i z c n=>some (.rws i z c n)
 |.rob true l=>some (.rob true l)
 |.roi true k l=>some (.roi true k l)
 |.ros true l=>some (.ros true l)
 |.rov true z l=>some (.rov true z l)
 |_=>none
def zoY(P:Program)(h:Heap)(t tx:TypeId)(s x:AV):Option (Bool×Bool×AO):=match zye s,P.underlying t with
 |some B,some (.slice e)=>match P.info? e with
  |some i=>match i.zero,zuI P h t B,zuI P h tx x,VR P e i.size with
   |some H,some j,some o',some J=>match Nat.beq H.cells.size i.size,Nat.ble 1 i.size,Nat.beq (zOf o') i.size,Nat.beq (zOf j) i.size,zpM J j with
    |true,true,true,true,some I=>match zpM I o' with
     |some o2=>some (Nat.ble 1 (lenO o'),zcl j&&(zcl o'&&je i.bytes (lenO o2)),o2)
     |none=>none
    |_,_,_,_,_=>none
   |_,_,_,_=>none
  |none=>none
 |_,_=>none
def zwx(h:Heap):AV->Option uAU
 |.str l=>some l
 |v=>yT h v
def zr3(h:Heap):AV->Option (Nat×TypeId×uAU×Nat×Nat)
 |.rw i=>match hget h i with
  |some (.bytes T l)=>some (i,T,l,0,l.length)
  |_=>none
 |.rws i 1 c n=>match hget h i with
  |some (.bytes T l)=>some (i,T,l,c.toNat,n.toNat)
  |_=>none
 |_=>none
def zeA(l s:uAU)(o k:Nat):uAU:=l.take o++s.take k++l.drop (o+min s.length k)
def zeY(P:Program)(h:Heap)(t:TypeId)(d x:AV):Option (Nat×Nat×AO):=match P.underlying t with
 |some (.slice e)=>match zK P e,zr3 h d,zwx h x with
  |some 1,some (i,T,l,o,k),some s=>some (min s.length k,i,.bytes T (zeA l s o k))
  |_,_,_=>none
 |_=>none
def zwM(s:AV)(i:Nat):AV:=match s with
 |.rwp _=>.rwp i
 |_=>.rw i
def qy(s:uAU)(pos:Nat):Int:=((Utf8.decode (bs s) pos).1:Int)
def widthAt(s:uAU)(pos:Nat):Nat:=(Utf8.decode (bs s) pos).2
end Go.Am
