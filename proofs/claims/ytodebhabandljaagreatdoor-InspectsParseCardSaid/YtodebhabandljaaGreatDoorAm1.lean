/-
  A part of the proof of the laws.
-/
import Derived.Test.YtodebhabandljaaGreatDoorVb
namespace Go.Am
open Go Go.RowKit Go.Vc
inductive AV where
 |undef
 |int (k:IntKind) (n:Int)
 |bool (b:Bool)
 |str (l:uAS)
 |nilp
 |nilf
 |nili
 |nilm
 |nils
 |ptr (i off:Nat)
 |ep (i sz:Nat) (idx:Int) (off:Nat)
 |rp (v:AV)
 |rw(i:Nat)
 |rwp (i:Nat)
 |rwf (i:Nat)
 |pos (k:IntKind)
 |rws (i sz:Nat) (lo len:Int)
 |rwc (i sz:Nat) (lo len:Int)
 |rob (full:Bool) (l:uAS)
 |roi (full:Bool) (k:IntKind) (l:List Int)
 |ros (full:Bool) (l:List uAS)
 |rov (full:Bool) (sz:Nat) (l:List AV)
 |fn (f:FuncId) (first cap:List AV)
 |fns (n:Int) (fs:List FuncId)
 |agg (cs:List AV)
 |tup (vs:List AV)
 |iface (t:TypeId) (v:AV)
 |map (i:Nat)
inductive AO where
 |cells (T:TypeId) (cs:List AV)
 |bytes (T:TypeId) (l:uAS)
 |ints (T:TypeId) (k:IntKind) (l:List Int)
 |strs (T:TypeId) (l:List uAS)
 |vals (T:TypeId) (sz:Nat) (l:List AV)
 |gens (T:TypeId) (ag:Bool) (sz n:Nat) (cs:List AV)
 |iter (s:uAS) (pos:Nat)
 |mp (l:List (AV×AV))
abbrev Slots:=List (Nat×AV)
abbrev Heap:=List (Option AO)
structure St where
 s:Slots
 h:Heap
def get:Slots->Nat->AV
 |[],_=>.undef
 |(t,v)::r,x=>match Nat.beq t x with
  |true=>v
  |false=>get r x
def put(d:Nat)(v:AV):Slots->Slots
 |[]=>[(d,v)]
 |(t,u)::r=>match Nat.beq d t with
  |true=>(d,v)::r
  |false=>match Nat.ble d t with
   |true=>(d,v)::(t,u)::r
   |false=>(t,u)::put d v r
def putO(d:Option Nat)(v:AV)(s:Slots):Slots:=match d with
 |some d=>put d v s
 |none=>s
def hget(h:Heap)(i:Nat):Option AO:=match h[i]? with
 |some (some o)=>some o
 |_=>none
def chk{α:Type}(c:Bool)(x:Option α):Option α:=match c with
 |true=>x
 |false=>none
def bnd{α β:Type}(x:Option α)(f:α->Option β):Option β:=match x with
 |some v=>f v
 |none=>none
theorem zm{α:Type}{c:Bool}{x:Option α}{r:α}(h:chk c x=some r):c=true/\x=some r:=by
 cases c
 ·cases h
 ·exact⟨rfl,h⟩
theorem Yk{α β:Type}{x:Option α}{f:α->Option β}{r:β}(h:bnd x f=some r):∃v,x=some v/\f v=some r:=by
 cases x with
 |none=>cases h
 |some v=>exact⟨v,rfl,h⟩
@[simp] theorem za{α:Type}(x:Option α):chk true x=x:=rfl
@[simp] theorem ze{α β:Type}(v:α)(f:α->Option β):bnd (some v) f=f v:=rfl
@[simp] theorem zBv{α β:Type}(f:α->Option β):bnd none f=none:=rfl
def zn(k:IntKind)(n:Int):Bool:=match n with
 |.ofNat m=>Nat.ble m k.max.toNat
 |.negSucc m=>Nat.ble (m+1) (-k.min).toNat
theorem ql{k:IntKind}{n:Int}:zn k n=true↔inK k n:=by
 have y:k.min<=0:=by cases k<;>decide
 have j:0<=k.max:=by cases k<;>decide
 unfold zn inK;cases n with
 |ofNat m=>simp only[uAB,uAQ];omega
 |negSucc m=>simp only[uAB];omega
def zh(n:Int):Bool:=decide (0<=n)
def zw(i:Int)(len:Nat):Bool:=decide (0<=i)&&decide (i<(len:Int))
def jb(j y:Int)(len:Nat):Bool:=decide (0<=j)&&decide (j<=y)&&decide (y<=(len:Int))
def zne(k:IntKind)(n:Int):Bool×AV:=match k.signed with
 |true=>(zn k n,.int k n)
 |false=>(true,.int k (k.wrap n))
def zp(v:AV):Int:=match v with
 |.int _ n=>n
 |_=>0
def zbq(v:AV):uAS:=match v with
 |.str l=>l
 |_=>[]
def znz(v:AV):Bool:=match v with
 |.bool b=>b
 |_=>false
def zb(v:AV)(i:Nat):AV:=match v with
 |.agg cs=>match cs[i]? with
  |some c=>c
  |none=>.undef
 |v=>v
def bytesOf(v:AV):uAS:=match v with
 |.rob _ l=>l
 |_=>[]
def atS(l:List uAS)(i:Int):uAS:=l.getD i.toNat []
def atI(l:List Int)(i:Int):Int:=l.getD i.toNat 0
def atV(l:List AV)(i:Int):AV:=l.getD i.toNat .undef
def zd(k:IntKind):AV->Bool
 |.int j _=>kEq k j
 |_=>false
def zf6:Value->AV
 |.int k n=>.int k n
 |.bool b=>.bool b
 |.string s=>.str (bl s)
 |.pointer none=>.nilp
 |.nilFunc=>.nilf
 |.nilIface=>.nili
 |.map none=>.nilm
 |.slice none 0 0=>.nils
 |.func (.func f) first cap=>match first.toList,cap.toList with
  |[],[]=>.fn f [] []
  |_,_=>.undef
 |_=>.undef
def ofV:Value->AV
 |.agg cs=>.agg (cs.toList.map zf6)
 |v=>zf6 v
abbrev Glob:=List (Nat×AV)
def jW:Glob->Nat->AV
 |[],_=>.undef
 |(g,v)::r,x=>match Nat.beq g x with
  |true=>.rp v
  |false=>jW r x
def opnd(gl:Glob)(s:Slots):Operand->AV
 |.const v=>ofV v
 |.global g=>jW gl g
 |.func f=>.fn f [] []
 |.tmp t=>get s t
def Qx(P:Program)(t:TypeId)(cs:List AV)(off:Nat):Option AV:=
 match zF P t,zH P t with
 |some true,some n=>match Nat.ble (off+n) cs.length with
  |true=>some (.agg ((cs.drop off).take n))
  |false=>none
 |some false,some 1=>cs[off]?
 |_,_=>none
def zBu(op:BinOp)(a b:Int):Option Bool:=
 match op with
 |.eql=>some (decide (a=b))
 |.neq=>some (!decide (a=b))
 |.lss=>some (decide (a<b))
 |.leq=>some (decide (a<=b))
 |.gtr=>some (decide (b<a))
 |.geq=>some (decide (b<=a))
 |_=>none
def znM(op:BinOp)(k:IntKind)(a b:Int):Option (Bool×AV):=
 match op with
 |.add=>some (zne k (a+b))
 |.sub=>some (zne k (a-b))
 |.mul=>some (zne k (a*b))
 |.quo=>some (zh a&&decide (0<b)&&zn k (a/b),.int k (a/b))
 |.rem=>some (zh a&&decide (0<b),.int k (a%b))
 |.and=>some (true,.int k (bits .and k a b))
 |.or=>some (true,.int k (bits .or k a b))
 |.xor=>some (true,.int k (bits .xor k a b))
 |_=>match zBu op a b with
  |some c=>some (true,.bool c)
  |none=>none
def yK(a b:uAS):Bool:=Nat.ble (a.length+b.length) 9223372036854775807
theorem zba{a b:uAS}:yK a b=true↔((a.length:Int)+b.length)<=9223372036854775807:=by unfold yK;rw[uAB];omega
def zjM(op:BinOp)(a b:uAS):Option (Bool×AV):=
 match op with
 |.add=>some (yK a b,.str (a++b))
 |.eql=>some (true,.bool (decide (a=b)))
 |.neq=>some (true,.bool (!decide (a=b)))
 |.lss=>some (true,.bool (Op.bytesLess a b))
 |.leq=>some (true,.bool (Op.bytesLess a b||decide (a=b)))
 |.gtr=>some (true,.bool (!(Op.bytesLess a b||decide (a=b))))
 |.geq=>some (true,.bool (!(Op.bytesLess a b)))
 |_=>none
def zjq(P:Program):List Field->Nat->List AV->List AV->Option Bool
 |[],_,[],[]=>some true
 |f::r,n,x::xs,y::ys=>match Nat.beq f.offset n,f.name== "_",zH P f.type,zjq P r (n+1) xs ys with
  |true,false,some 1,some c=>match P.underlying f.type,x,y with
   |some .bool,.bool a,.bool b=>some (decide (a=b)&&c)
   |some (.int _),.int k a,.int k' b=>match kEq k k' with
    |true=>some (decide (a=b)&&c)
    |false=>none
   |some .string,.str a,.str b=>some (decide (a=b)&&c)
   |_,_,_=>none
  |_,_,_,_=>none
 |_,_,_,_=>none
def eq1(P:Program)(t:TypeId)(x y:AV):Option Bool:=match P.underlying t,x,y with
 |some .bool,.bool a,.bool b=>some (decide (a=b))
 |some (.int _),.int k a,.int j b=>match kEq k j with
  |true=>some (decide (a=b))
  |false=>none
 |some .string,.str a,.str b=>some (decide (a=b))
 |_,_,_=>none
def zqv(P:Program):List Field->Nat->List AV->List AV->Option Bool
 |[],_,[],[]=>some true
 |f::r,n,xs,ys=>match Nat.beq f.offset n,f.name== "_",zH P f.type,P.underlying f.type with
  |true,false,some (k+1),some (.struct gs)=>match P.stoodInHeld f.type,Nat.ble (k+1) xs.length,Nat.ble (k+1) ys.length,zjq P gs.toList 0 (xs.take (k+1)) (ys.take (k+1)),zqv P r (n+(k+1)) (xs.drop (k+1)) (ys.drop (k+1))with
   |false,true,true,some b,some c=>some (b&&c)
   |_,_,_,_,_=>none
  |true,false,some 1,some _=>match xs,ys with
   |x::xr,y::yr=>match eq1 P f.type x y,zqv P r (n+1) xr yr with
    |some b,some c=>some (b&&c)
    |_,_=>none
   |_,_=>none
  |_,_,_,_=>none
 |_,_,_,_=>none
def zll(P:Program)(F:List Field->List AV->List AV->Bool->Option Bool):List Field->Nat->List AV->List AV->Bool->Option Bool
 |[],_,[],[],c=>some c
 |f::r,n,xs,ys,c=>match Nat.beq f.offset n,f.name== "_",zH P f.type,P.underlying f.type with
  |true,false,some (k+1),some (.struct gs)=>match P.stoodInHeld f.type,Nat.ble (k+1) xs.length,Nat.ble (k+1) ys.length,zll P F r (n+(k+1)) (xs.drop (k+1)) (ys.drop (k+1)) c with
   |false,true,true,some d=>F gs.toList (xs.take (k+1)) (ys.take (k+1)) d
   |_,_,_,_=>none
  |true,false,some 1,some _=>match xs,ys with
   |x::xr,y::yr=>match eq1 P f.type x y,zll P F r (n+1) xr yr c with
    |some b,some d=>some (b&&d)
    |_,_=>none
   |_,_=>none
  |_,_,_,_=>none
 |_,_,_,_,_=>none
def zBs(P:Program)(fs:List Field)(xs j:List AV):Option Bool:=zll P (fun gs xs j c=>zll P (fun gs xs j c=>zll P (fun _ _ _ _=>none) gs 0 xs j c) gs 0 xs j c) fs 0 xs j true
def zuE(P:Program)(t:TypeId)(xs j:List AV):Option Bool:=
 match P.underlying t,P.eqGuardType P.depth t,P.stoodInHeld t with
 |some (.struct fs),false,false=>match zjq P fs.toList 0 xs j with
  |some b=>some b
  |none=>match zqv P fs.toList 0 xs j with
   |some b=>some b
   |none=>zBs P fs.toList xs j
 |_,_,_=>none
def zfg:AV->Option (Bool×Bool)
 |.nils=>some (true,true)
 |.rwp _|.rwf _=>some (true,false)
 |.rob _ l=>some (Nat.ble 1 l.length,false)
 |.roi _ _ l=>some (Nat.ble 1 l.length,false)
 |.ros _ l=>some (Nat.ble 1 l.length,false)
 |.rov _ _ l=>some (Nat.ble 1 l.length,false)
 |.rws _ _ _ n|.rwc _ _ _ n=>some (decide (0<n),false)
 |_=>none
def zAP(P:Program)(op:BinOp)(t:TypeId)(x y:AV):Option (Bool×AV):=
 match x,y with
 |.pos k,.int j b=>match kEq k j,op,decide (b<=0)with
  |true,.eql,true=>some (true,.bool false)
  |true,.neq,true=>some (true,.bool true)
  |_,_,_=>none
 |.int k a,.int j b=>match op with
  |.shl=>some (zh b&&Nat.ble b.toNat k.bits,.int k (k.wrap (a*2^b.toNat)))
  |.shr=>some (zh b&&Nat.ble b.toNat k.bits,.int k (a/2^b.toNat))
  |op=>match kEq k j with
   |true=>znM op k a b
   |false=>none
 |.str a,.str b=>zjM op a b
 |.bool a,.bool b=>match P.underlying t,op with
  |some .bool,.eql=>some (true,.bool (decide (a=b)))
  |some .bool,.neq=>some (true,.bool (!decide (a=b)))
  |_,_=>none
 |.agg xs,.agg B=>match op,zuE P t xs B with
  |.eql,some c=>some (true,.bool c)
  |.neq,some c=>some (true,.bool (!c))
  |_,_=>none
 |x,.nils=>match P.underlying t,op,zfg x with
  |some (.slice _),.eql,some (c,b)=>some (c,.bool b)
  |some (.slice _),.neq,some (c,b)=>some (c,.bool (!b))
  |_,_,_=>none
 |_,_=>none
def zzs(P:Program)(op:BinOp)(t:TypeId)(x:AV):Option (Bool×AV):=
 match P.underlying t,op,x with
 |some (.interface _),.eql,.nili=>some (true,.bool true)
 |some (.interface _),.neq,.nili=>some (true,.bool false)
 |some (.interface _),.eql,.iface _ _=>some (true,.bool false)
 |some (.interface _),.neq,.iface _ _=>some (true,.bool true)
 |_,_,_=>none
def zzJ(l:uAS):Option AV->Option AV->Option (Bool×AV)
 |none,none=>some (true,.str l)
 |some (.int _ j),none=>some (jb j l.length l.length,.str (zbS l j))
 |none,some (.int _ y)=>some (jb 0 y l.length,.str (YX l y))
 |some (.int _ j),some (.int _ y)=>some (jb j y l.length,.str (Vc.sub l j y))
 |_,_=>none
def setL(cs:List AV)(off:Nat)(vs:List AV):List AV:=cs.take off++vs++cs.drop (off+vs.length)
def cellsA:AV->List AV
 |.agg cs=>cs
 |v=>[v]
def zL:AV->Bool
 |.undef|.agg _|.tup _=>false
 |_=>true
def zfy(j:Nat->Option (Nat×Nat))(cs:List AV):List (Nat×AV)->Option (List AV)
 |[]=>some cs
 |(i,v)::r=>match j i with
  |none=>none
  |some (off,n)=>match Nat.beq (cellsA v).length n,Nat.ble (off+n) cs.length,(cellsA v).all zL with
   |true,true,true=>zfy j (setL cs off (cellsA v)) r
   |_,_,_=>none
def zgk(P:Program)(t:TypeId):Option (List AV):=
 match zjU P t with
 |some cs=>some (cs.map zf6)
 |none=>none
def znx(P:Program)(t:TypeId)(y:List (Nat×AV)):Option AV:=
 match P.underlying t,zgk P t with
 |some (.struct B),some z=>match Xz P B.toList with
  |some places=>match zfy (fun j=>places[j]?) z y with
   |some cs=>some (.agg cs)
   |none=>none
  |none=>none
 |some (.array _ elem),some z=>match zH P elem with
  |some n=>match zfy (fun j=>some (j*n,n)) z y with
   |some cs=>some (.agg cs)
   |none=>none
  |none=>none
 |_,_=>none
def zmV:AV->Bool
 |.rob _ _=>true
 |.nils=>true
 |_=>false
def zmU(k:IntKind):AV->Bool
 |.roi _ j _=>kEq k j
 |.nils=>true
 |_=>false
def zAv(v:AV):List Int:=match v with
 |.roi _ _ l=>l
 |_=>[]
def KJ(n:Nat):AV->Bool
 |.rov _ z _=>Nat.beq z n
 |.nils=>true
 |_=>false
def zkp(v:AV):List AV:=match v with
 |.rov _ _ l=>l
 |_=>[]
def zn7(v:AV):Option (Bool×AV):=match v with
 |.rov f z l=>some (true,.rov f z l)
 |.ros f l=>some (true,.ros f l)
 |.nils=>some (true,.nils)
 |_=>none
def zgO(P:Program)(j:Bool)(t:TypeId)(v:AV):Option (Bool×AV):=
 match P.underlying t with
 |some (.int k)=>some (zd k v,.int k (zp v))
 |some .string=>some (match v with|.str _=>true|_=>false,.str (zbq v))
 |some .bool=>some (match v with|.bool _=>true|_=>false,.bool (znz v))
 |some (.func _ _ _)=>match v with
  |.fn f a c=>some (true,.fn f a c)
  |_=>none
 |some (.slice e)=>match P.underlying e with
  |some (.int .u8)=>some (zmV v,.rob false (bytesOf v))
  |some (.int k)=>some (zmU k v,.roi false k (zAv v))
  |some (.struct _)=>match j with
   |true=>match zH P e with
    |some n=>some (KJ n v,.rov false n (zkp v))
    |none=>none
   |false=>zn7 v
  |_=>zn7 v
 |_=>none
def WG(P:Program)(j:Bool)(e:TypeId)(v:AV):Nat->Nat->Option (Bool×List AV)
 |0,_=>some (true,[])
 |n+1,k=>match zgO P j e (zb v k),WG P j e v n (k+1)with
  |some (c,x),some (d,xs)=>some (c&&d,x::xs)
  |_,_=>none
def zus(P:Program):Nat->List Field->Nat->Option (List (Nat×TypeId))
 |0,_,_=>none
 |_+1,[],_=>some []
 |n+1,f::r,b=>match P.underlying f.type,zus P n r b with
  |some (.struct gs),some l=>match zus P n gs.toList (b+f.offset)with
   |some m=>some (m++l)
   |none=>none
  |some _,some l=>some ((b+f.offset,f.type)::l)
  |_,_=>none
def WH(P:Program)(j:Bool)(v:AV):List (Nat×TypeId)->Nat->Option (Bool×List AV)
 |[],_=>some (true,[])
 |f::r,n=>match Nat.beq f.1 n,zgO P j f.2 (zb v n),WH P j v r (n+1)with
  |true,some (c,x),some (d,xs)=>some (c&&d,x::xs)
  |_,_,_=>none
def jS(v:AV)(n:Nat):Bool:=match v with
 |.agg cs=>Nat.beq cs.length n
 |_=>false
def zel(P:Program)(j:Bool)(t:TypeId)(v:AV):Option (Bool×AV):=
 match P.underlying t with
 |some (.struct fs)=>match zus P 64 fs.toList 0 with
  |some l=>match WH P j v l 0 with
   |some (c,xs)=>some (jS v xs.length&&c,.agg xs)
   |none=>none
  |none=>none
 |some (.array n e)=>match WG P j e v n 0 with
  |some (c,xs)=>some (jS v xs.length&&c,.agg xs)
  |none=>none
 |_=>zgO P j t v
def lenO:AO->Nat
 |.bytes _ l=>l.length
 |.ints _ _ l=>l.length
 |.strs _ l=>l.length
 |.vals _ _ l=>l.length
 |.gens _ _ _ n _=>n
 |_=>0
def ziR(h:Heap):AV->Option Int
 |.nils=>some 0
 |.rw i=>match hget h i with
  |some o=>some (lenO o:Int)
  |none=>none
 |.rwp i=>match hget h i with
  |some o=>some (lenO o:Int)
  |none=>none
 |.rws _ _ _ n=>some n
 |.rwc _ _ _ n=>some n
 |.rob _ l=>some (l.length:Int)
 |.roi _ _ l=>some (l.length:Int)
 |.ros _ l=>some (l.length:Int)
 |.rov _ _ l=>some (l.length:Int)
 |_=>none
def zt9:AV->AV->Option Bool
 |.int k a,.int j b=>match kEq k j with
  |true=>some (decide (a=b))
  |false=>none
 |.str a,.str b=>some (decide (a=b))
 |_,_=>none
def zbG(P:Program)(kt:TypeId)(x:AV):Bool:=match P.underlying kt,x with
 |some (.int k),.int j _=>kEq k j
 |some .string,.str _=>true
 |_,_=>false
def Jw{R:Type}(key:AV)(k:Option (Nat×AV)->Option R):List (AV×AV)->Nat->Option R
 |[],_=>k none
 |(x,v)::r,i=>match zt9 key x with
  |some b=>cond b (k (some (i,v))) (Jw key k r (i+1))
  |none=>none
def zqO(P:Program)(t:TypeId):Option AV:=match P.info? t with
 |some i=>match i.zero with
  |some z=>some (ofV z)
  |none=>none
 |none=>none
def okV(ok:Bool)(v:AV)(b:Bool):AV:=match ok with
 |true=>.tup [v,.bool b]
 |false=>v
def XF(P:Program)(t:TypeId):Option (TypeId×TypeId):=match P.underlying t with
 |some (.map k e)=>some (k,e)
 |_=>none
def qZ(h:Heap):AV->Option (Nat×List (AV×AV))
 |.map i=>match hget h i with
  |some (.mp l)=>some (i,l)
  |_=>none
 |_=>none
def mapPut(l:List (AV×AV))(key v:AV):Option (Nat×AV)->List (AV×AV)
 |some (j,_)=>l.take j++(key,v)::l.drop (j+1)
 |none=>l++[(key,v)]
def subL{α:Type}(l:List α)(a b:Int):List α:=(l.take b.toNat).drop a.toNat
def bdI(d:Int):Option AV->Option Int
 |none=>some d
 |some (.int _ n)=>some n
 |_=>none
def Qg(h:Heap)(z:Nat)(v:AV)(j y:Option AV):Option (Bool×AV):=match v with
 |.rob _ l=>match Nat.beq z 1,bdI 0 j,bdI (l.length:Int) y with
  |true,some a,some b=>some (jb a b l.length,.rob false (Vc.sub l a b))
  |_,_,_=>none
 |.rw i=>match hget h i with
  |some o=>match bdI 0 j,bdI (lenO o:Int) y with
   |some a,some b=>some (jb a b (lenO o),.rws i z a (b-a))
   |_,_=>none
  |none=>none
 |.rws i B c n=>match Nat.beq z B,bdI 0 j,bdI n y with
  |true,some a,some b=>some (decide (0<=a)&&decide (a<=b)&&decide (b<=n),.rws i z (c+a) (b-a))
  |_,_,_=>none
 |.rwc i B c n=>match Nat.beq z B,bdI 0 j,bdI n y with
  |true,some a,some b=>some (decide (0<=a)&&decide (a<=b)&&decide (b<=n),.rws i z (c+a) (b-a))
  |_,_,_=>none
 |.ros _ l=>match Nat.beq z 1,bdI 0 j,bdI (l.length:Int) y with
  |true,some a,some b=>some (jb a b l.length,.ros false (subL l a b))
  |_,_,_=>none
 |.roi _ k l=>match Nat.beq z 1,bdI 0 j,bdI (l.length:Int) y with
  |true,some a,some b=>some (jb a b l.length,.roi false k (subL l a b))
  |_,_,_=>none
 |.rov _ B l=>match Nat.beq z B,bdI 0 j,bdI (l.length:Int) y with
  |true,some a,some b=>some (jb a b l.length,.rov false z (subL l a b))
  |_,_,_=>none
 |.nils=>match bdI 0 j,bdI 0 y with
  |some a,some b=>some (jb a b 0,.nils)
  |_,_=>none
 |_=>none
def zag(h:Heap)(z:Nat)(v:AV)(y B:Option AV)(m:AV):Option (Bool×AV):=match B,m with
 |some (.int _ b),.int _ m=>match v,bdI 0 y with
  |.rob _ l,some a=>match Nat.beq z 1 with
   |true=>some (jb a b l.length&&decide (m=b),.rob true (Vc.sub l a b))
   |false=>none
  |.ros _ l,some a=>match Nat.beq z 1 with
   |true=>some (jb a b l.length&&decide (m=b),.ros true (subL l a b))
   |false=>none
  |.roi _ k l,some a=>match Nat.beq z 1 with
   |true=>some (jb a b l.length&&decide (m=b),.roi true k (subL l a b))
   |false=>none
  |.rov _ j l,some a=>match Nat.beq z j with
   |true=>some (jb a b l.length&&decide (m=b),.rov true z (subL l a b))
   |false=>none
  |.rw i,some a=>match hget h i with
   |some o=>some (jb a b (lenO o)&&decide (m=b),.rwc i z a (b-a))
   |none=>none
  |.rws i j c n,some a=>match Nat.beq z j with
   |true=>some (decide (0<=a)&&decide (a<=b)&&decide (b<=n)&&decide (m=b),.rwc i z (c+a) (b-a))
   |false=>none
  |.nils,some a=>some (jb a b 0&&decide (m=b),.nils)
  |_,_=>none
 |_,_=>none
def X0(ev:Operand->AV):List (Nat×Operand)->List (Nat×AV)
 |[]=>[]
 |(i,x)::r=>(i,ev x)::X0 ev r
def XS(P:Program)(t:TypeId)(f:Nat):Option Field:=
 match P.underlying t with
 |some (.struct fs)=>fs[f]?
 |_=>none
def XL:AV->Bool
 |.bool _=>true
 |_=>false
def zhJ(v:AV)(n:Nat)(j y m:Option AV):Option (Bool×AV):=match v with
 |.rp (.agg cs)=>match Nat.beq cs.length n&&cs.all XL with
  |true=>match j,y,m with
   |none,some (.int _ b),none=>some (jb 0 b n,.rov false 1 (subL cs 0 b))
   |none,some (.int _ b),some (.int _ q)=>some (jb 0 b n&&decide (q=b),.rov true 1 (subL cs 0 b))
   |_,_,_=>none
  |false=>none
 |_=>none
def un:AV->AV
 |.rwf i=>.rw i
 |.rwc i z c n=>.rws i z c n
 |v=>v
def znn(v:AV):Option AV:=match v with
 |.agg cs=>some (.rp (.agg cs))
 |v=>cond (zL v) (some (.rp v)) none
def zis(P:Program)(t:TypeId)(cs:List AV)(off:Nat):Option AV:=
 match zF P t,zH P t with
 |some true,some n=>match Nat.ble (off+n) cs.length,Nat.ble 1 n with
  |true,true=>some (.rp (.agg ((cs.drop off).take n)))
  |_,_=>none
 |some false,some 1=>match cs[off]? with
  |some v=>cond (zL v) (some (.rp v)) none
  |none=>none
 |_,_=>none
def yl(P:Program)(h:Heap)(ev:Operand->AV)(op:Op):Option (Bool×AV):=
 match op with
 |.move x|.assign x=>some (true,ev x)
 |.binOp op t x y _=>match isK y,ev y with
  |true,.nili=>zzs P op t (ev x)
  |_,_=>zAP P op t (ev x) (ev y)
 |.unOp op _ x=>match op,ev x with
  |.not,.bool b=>some (true,.bool (!b))
  |.neg,.int k n=>some (zne k (-n))
  |_,_=>none
 |.convert O dst x=>match P.underlying O,P.underlying dst,ev x with
  |some (.int _),some (.int k),.int _ n=>some (zne k n)
  |some .string,some .string,.str l=>some (true,.str l)
  |_,_,_=>none
 |.extract x i=>match ev x with
  |.tup vs=>match vs[i]? with
   |some v=>some (true,v)
   |none=>none
  |_=>none
 |.nilCheck x=>match ev x with
  |.ptr i o=>some (true,.ptr i o)
  |.ep i z n o=>some (true,.ep i z n o)
  |.rp v=>some (true,.rp v)
  |.fn f first cap=>some (true,.fn f first cap)
  |.fns n fs=>some (true,.fns n fs)
  |_=>none
 |.makeFunc (.func f) first B=>some (true,.fn f (first.toList.map ev) (B.toList.map ev))
 |.index t x i=>match P.underlying t,ev x,ev i with
  |some .string,.str l,.int _ n=>some (zw n l.length,.int .u8 (byteAt l n))
  |some (.array len elem),.agg cs,.int _ n=>match P.underlying elem,zH P elem,Nat.beq len cs.length with
   |some (.int k),some 1,true=>match cs.all (zd k)with
    |true=>some (zw n cs.length,.int k (zp (atV cs n)))
    |false=>none
   |_,some z,_=>match n with
    |.ofNat m=>match Nat.blt m len,Qx P elem cs (m*z)with
     |true,some v=>some (true,v)
     |_,_=>none
    |.negSucc _=>none
   |_,_,_=>none
  |_,_,_=>none
 |.slice t x Z U none=>match P.underlying t,ev x,Z.map ev,U.map ev with
  |some .string,.str l,a,b=>zzJ l a b
  |_,_,_,_=>none
 |.fieldAddr s x f=>match XS P s f,ev x with
  |some H,.ptr i o=>match zH P H.type with
   |some (_+1)=>some (true,.ptr i (o+H.offset))
   |_=>none
  |some H,.ep i z n o=>match zH P H.type with
   |some (_+1)=>some (true,.ep i z n (o+H.offset))
   |_=>none
  |some H,.rp (.agg cs)=>match zH P H.type,zis P H.type cs H.offset with
   |some (_+1),some v=>some (true,v)
   |_,_=>none
  |_,_=>none
 |.field t x f=>match XS P t f,ev x with
  |some H,.agg cs=>match Qx P H.type cs H.offset with
   |some v=>some (true,v)
   |none=>none
  |_,_=>none
 |.indexAddr t x i=>match P.underlying t,un (ev x),ev i with
  |some (.slice elem),.rw j,.int _ n=>match zH P elem,hget h j with
   |some z,some o=>some (zw n (lenO o),.ep j z n 0)
   |_,_=>none
  |some (.slice elem),.rws j J c m,.int _ n=>match zH P elem with
   |some z=>match Nat.beq z J with
    |true=>some (decide (0<=n)&&decide (n<m),.ep j z (c+n) 0)
    |false=>none
   |none=>none
  |some (.slice elem),.rob _ l,.int _ n=>match zH P elem with
   |some 1=>some (zw n l.length,.rp (.int .u8 (byteAt l n)))
   |_=>none
  |some (.slice elem),.ros _ l,.int _ n=>match zH P elem with
   |some 1=>some (zw n l.length,.rp (.str (atS l n)))
   |_=>none
  |some (.slice elem),.roi _ k l,.int _ n=>match zH P elem with
   |some 1=>some (zw n l.length,.rp (.int k (atI l n)))
   |_=>none
  |some (.slice elem),.rov _ J l,.int _ n=>match zH P elem with
   |some z=>match Nat.beq z J with
    |true=>match zel P true elem (atV l n)with
     |some (c,v)=>some (zw n l.length&&c,.rp v)
     |none=>match znn (atV l n)with
      |some v=>some (zw n l.length,v)
      |none=>none
    |false=>none
   |none=>none
  |some (.array len elem),.rp (.agg cs),.int _ n=>match P.underlying elem,zH P elem,Nat.beq len cs.length with
   |some (.int k),some 1,true=>match cs.all (zd k)with
    |true=>some (zw n cs.length,.rp (.int k (zp (atV cs n))))
    |false=>none
   |_,some z,_=>match n with
    |.ofNat m=>match Nat.blt m len,zis P elem cs (m*z)with
     |true,some v=>some (true,v)
     |_,_=>none
    |.negSucc _=>none
   |_,_,_=>none
  |some (.array len elem),.ptr j o,.int _ (.ofNat n)=>match zH P elem,Nat.blt n len with
   |some z,true=>some (true,.ptr j (o+n*z))
   |_,_=>none
  |some (.array len elem),.ep j J m o,.int _ (.ofNat n)=>match zH P elem,Nat.blt n len with
   |some z,true=>some (true,.ep j J m (o+n*z))
   |_,_=>none
  |_,_,_=>none
 |.build t I=>match znx P t (X0 ev I.toList)with
  |some v=>some (true,v)
  |none=>none
 |.call {callee:=.builtin .len,args,argTypes}=>match argTypes.toList,args.toList with
  |[t],[x]=>match P.underlying t,un (ev x)with
   |some .string,.str l=>some (true,.int .i64 (l.length:Int))
   |some (.slice _),v=>match ziR h v with
    |some n=>some (true,.int .i64 n)
    |none=>none
   |some (.array n _),_=>some (true,.int .i64 (n:Int))
   |_,_=>none
  |_,_=>none
 |.call {callee:=.builtin .cap,args,argTypes}=>match argTypes.toList,args.toList with
  |[t],[x]=>match P.underlying t,ev x with
   |some (.slice _),.nils=>some (true,.int .i64 0)
   |some (.slice _),.rob true l=>some (true,.int .i64 (l.length:Int))
   |some (.slice _),.roi true _ l=>some (true,.int .i64 (l.length:Int))
   |some (.slice _),.ros true l=>some (true,.int .i64 (l.length:Int))
   |some (.slice _),.rov true _ l=>some (true,.int .i64 (l.length:Int))
   |some (.slice _),.rwc _ _ _ n=>some (true,.int .i64 n)
   |some (.slice _),.rwp i=>match hget h i with
    |some _=>some (true,.pos .i64)
    |none=>none
   |some (.slice _),.rwf i=>match hget h i with
    |some o=>some (true,.int .i64 (lenO o:Int))
    |none=>none
   |_,_=>none
  |_,_=>none
 |_=>none
def zgB(h:Heap):AV->Bool
 |.rw i=>match hget h i with
  |some o=>Nat.blt 0 (lenO o)
  |none=>false
 |_=>false
def yk(h:Heap):AV->Option uAS
 |.rob _ l=>some l
 |.nils=>some []
 |.rw i=>match hget h i with
  |some (.bytes _ l)=>some l
  |_=>none
 |.rwp i=>match hget h i with
  |some (.bytes _ l)=>some l
  |_=>none
 |.rws i 1 c n=>match hget h i with
  |some (.bytes _ l)=>some (Vc.sub l c (c+n))
  |_=>none
 |_=>none
inductive MA where
 |val (v:AV)
 |row (o:AO)
def zb6(a b:Int):Int:=if b>a then b else a
def QE(a b:Int):Int:=if b<a then b else a
def zp2(bytes:Nat):Int->Bool
 |.ofNat n=>Nat.ble (bytes*n) 281474976710656&&Nat.ble n 9223372036854775807
 |_=>false
def zyk:Nat->List AV->List AV
 |0,_=>[]
 |n+1,cs=>cs++zyk n cs
def zhG:AV->Bool
 |.int _ _=>true
 |.bool _=>true
 |.str _=>true
 |_=>false
def zuc:Option TypeDesc->Bool
 |some (.struct _)=>true
 |_=>false
def zzn(P:Program)(e:TypeId)(n:Int):Option (Nat×AO):=match P.info? e with
 |some i=>match i.zero,Nat.beq i.size 1,P.underlying e with
  |some (.int .u8 0),true,some (.int .u8)=>some (i.bytes,.bytes e (List.replicate n.toNat 0))
  |some (.int k 0),true,some (.int B)=>match kEq k B with
   |true=>some (i.bytes,.ints e k (List.replicate n.toNat 0))
   |false=>none
  |some j,_,_=>match Nat.ble 1 i.size,Nat.beq j.cells.size i.size,zF P e with
   |true,true,some y=>match zuc (P.underlying e),Nat.ble 2 i.size,(j.cells.toList.map zf6).all zhG with
    |true,true,true=>some (i.bytes,.vals e i.size (List.replicate n.toNat (.agg (j.cells.toList.map zf6))))
    |_,_,_=>some (i.bytes,.gens e y i.size n.toNat (zyk n.toNat (j.cells.toList.map zf6)))
   |_,_,_=>none
  |_,_,_=>none
 |none=>none
def zby(h:Heap):AV->Bool
 |.rw i=>match hget h i with
  |some (.bytes _ (_::_))=>true
  |_=>false
 |_=>false
def jR(P:Program)(h:Heap)(ev:Operand->AV)(op:Op):Option (Bool×MA):=match op with
 |.convert I dst x=>match P.underlying I,P.underlying dst,ev x with
  |some .string,some (.slice j),.str l=>match P.underlying j with
   |some (.int .u8)=>some (true,.row (.bytes j l))
   |_=>none
  |some (.slice j),some .string,_=>match P.underlying j,yk h (ev x)with
   |some (.int .u8),some l=>some (true,.val (.str l))
   |_,_=>none
  |some (.slice j),some (.slice _),_=>match Nat.beq I dst,P.underlying j,zby h (ev x)with
   |true,some (.int .u8),true=>some (true,.val (ev x))
   |_,_,_=>none
  |_,_,_=>none
 |.slice t x H B none=>match P.underlying t with
  |some (.slice e)=>match zH P e with
   |some z=>match Qg h z (ev x) (H.map ev) (B.map ev)with
    |some (c,v)=>some (c,.val v)
    |none=>none
   |none=>none
  |some (.array k e)=>match zH P e with
   |some 1=>match zhJ (ev x) k (H.map ev) (B.map ev) none with
    |some (c,v)=>some (c,.val v)
    |none=>none
   |_=>none
  |_=>none
 |.slice t x H B (some m)=>match P.underlying t with
  |some (.slice e)=>match zH P e with
   |some z=>match zag h z (ev x) (H.map ev) (B.map ev) (ev m)with
    |some (c,v)=>some (c,.val v)
    |none=>none
   |none=>none
  |some (.array k e)=>match zH P e with
   |some 1=>match zhJ (ev x) k (H.map ev) (B.map ev) (some (ev m))with
    |some (c,v)=>some (c,.val v)
    |none=>none
   |_=>none
  |_=>none
 |.call {callee:=.builtin .max,args,..}=>match args.toList with
  |[x,y]=>match ev x,ev y with
   |.int k a,.int _ b=>some (true,.val (.int k (zb6 a b)))
   |_,_=>none
  |[x,y,z]=>match ev x,ev y,ev z with
   |.int k a,.int _ b,.int _ c=>some (true,.val (.int k (zb6 (zb6 a b) c)))
   |_,_,_=>none
  |_=>none
 |.call {callee:=.builtin .min,args,..}=>match args.toList with
  |[x,y]=>match ev x,ev y with
   |.int k a,.int _ b=>some (true,.val (.int k (QE a b)))
   |_,_=>none
  |_=>none
 |.makeSlice t a b=>match P.underlying t,ev a,ev b with
  |some (.slice e),.int _ n,.int _ m=>match zzn P e n with
   |some (by_,o)=>match a with
    |.const _=>some (zp2 by_ m&&(decide (0<=n)&&decide (n<=m)),.row o)
    |_=>some (zp2 by_ n&&decide (m=n),.row o)
   |none=>none
  |_,_,_=>none
 |.binOp J t x y _=>match ev y,J,zgB h (ev x),P.underlying t with
  |.nils,.eql,true,some (.slice _)=>some (true,.val (.bool false))
  |.nils,.neq,true,some (.slice _)=>some (true,.val (.bool true))
  |_,_,_,_=>none
 |_=>none
def yq(P:Program)(h:Heap)(ev:Operand->AV)(op:Op):Option (Bool×MA):=jR P h (fun x=>un (ev x)) op
def zyz:AV->Bool
 |.undef=>true
 |_=>false
def zuo:Glob->Bool
 |[]=>false
 |(_,v)::r=>zyz v||zuo r
def newV(gl:Glob)(op:Op)(nid:Nat):AV:=match op with
 |.makeSlice _ (.tmp _) _=>cond (zuo gl) (.rwf nid) (.rw nid)
 |_=>.rw nid
def tyO:AO->TypeId
 |.bytes T _|.ints T _ _|.strs T _|.vals T _ _|.gens T _ _ _ _=>T
 |_=>0
def zOf:AO->Nat
 |.vals _ z _=>z
 |.gens _ _ z _ _=>z
 |_=>1
def Zw:List AV->List AV
 |[]=>[]
 |.agg cs::r=>cs++Zw r
 |v::r=>v::Zw r
def Q9(P:Program)(e:TypeId)(z:Nat):Option AO:=match P.underlying e with
 |some (.int .u8)=>some (.bytes e [])
 |some (.int k)=>some (.ints e k [])
 |some .string=>some (.strs e [])
 |some (.struct _)|some (.func _ _ _)|some (.array _ _)|some (.slice _)=>some (.vals e z [])
 |some _=>match zF P e with
  |some j=>some (.gens e j z 0 [])
  |none=>none
 |none=>none
def zmc(P:Program)(h:Heap)(B:TypeId)(x:AV):Option AO:=match P.underlying B,x with
 |some .string,.str l=>some (.bytes 0 l)
 |some (.slice _),.rob _ l=>some (.bytes 0 l)
 |some (.slice _),.roi _ k l=>some (.ints 0 k l)
 |some (.slice _),.ros _ l=>some (.strs 0 l)
 |some (.slice _),.rov _ z l=>some (.vals 0 z l)
 |some (.slice e),.nils=>match zH P e with
  |some z=>Q9 P e z
  |none=>none
 |some (.slice _),.rw i=>match hget h i with
  |some (.bytes T l)=>some (.bytes T l)
  |some (.ints T k l)=>some (.ints T k l)
  |some (.strs T l)=>some (.strs T l)
  |some (.vals T z l)=>some (.vals T z l)
  |some (.gens T j z n cs)=>some (.gens T j z n cs)
  |_=>none
 |some (.slice _),.rws i z c n=>match hget h i with
  |some (.bytes T l)=>match Nat.beq z 1 with
   |true=>some (.bytes T (subL l c (c+n)))
   |false=>none
  |some (.ints T k l)=>match Nat.beq z 1 with
   |true=>some (.ints T k (subL l c (c+n)))
   |false=>none
  |some (.strs T l)=>match Nat.beq z 1 with
   |true=>some (.strs T (subL l c (c+n)))
   |false=>none
  |some (.vals T y l)=>match Nat.beq z y with
   |true=>some (.vals T z (subL l c (c+n)))
   |false=>none
  |some (.gens T j y _ cs)=>match Nat.beq z y with
   |true=>some (.gens T j z n.toNat ((cs.drop (c.toNat*z)).take (n.toNat*z)))
   |false=>none
  |_=>none
 |_,_=>none
def X8(o:AO):Bool:=match o with
 |.vals _ _ l=>(Zw l).all zL
 |_=>true
def zb1(P:Program)(h:Heap)(y:TypeId)(x:AV):Option AO:=match zmc P h y x with
 |some (.gens T j z n cs)=>cond (cs.all zL) (some (.gens T j z n cs)) none
 |o=>o
def zlr(o o':AO):Option AO:=match o,o' with
 |.bytes T l,.bytes _ B=>some (.bytes T (l++B))
 |.ints T k l,.ints _ J B=>match kEq k J with
  |true=>some (.ints T k (l++B))
  |false=>none
 |.strs T l,.strs _ B=>some (.strs T (l++B))
 |.vals T z l,.vals _ y B=>match Nat.beq z y with
  |true=>some (.vals T z (l++B))
  |false=>none
 |.gens T H z n cs,.gens _ _ y I j=>match Nat.beq z y with
  |true=>some (.gens T H z (n+I) (cs++j))
  |false=>none
 |.gens T H z n cs,.vals _ y l=>match Nat.beq z y with
  |true=>some (.gens T H z (n+l.length) (cs++Zw l))
  |false=>none
 |.vals T z l,.gens _ H y I j=>match Nat.beq z y with
  |true=>some (.gens T H z (l.length+I) (Zw l++j))
  |false=>none
 |_,_=>none
def growOk(bytes n:Nat):Bool:=Nat.ble (n*bytes) 140737488355328&&Nat.ble n 9223372036854775807
def zk3(P:Program)(h:Heap)(t B:TypeId)(s x:AV):Option (Bool×Option Nat×AO):=match P.underlying t with
 |some (.slice e)=>match P.info? e with
  |some i=>match i.zero,zb1 P h B x with
   |some y,some o'=>match Nat.beq y.cells.size i.size,Nat.ble 1 i.size,Nat.beq (zOf o') i.size with
    |true,true,true=>match s with
     |.nils=>match Q9 P e i.size with
      |some o=>match zlr o o' with
       |some o2=>some (X8 o'&&growOk i.bytes (lenO o2),none,o2)
       |none=>none
      |none=>none
     |.rw j=>match hget h j with
      |some o=>match zlr o o',Nat.beq (tyO o) e with
       |some o2,true=>some (X8 o'&&growOk i.bytes (lenO o2),some j,o2)
       |_,_=>none
      |none=>none
     |.rwp j=>match hget h j with
      |some o=>match zlr o o',Nat.beq (tyO o) e with
       |some o2,true=>some (X8 o'&&growOk i.bytes (lenO o2),some j,o2)
       |_,_=>none
      |none=>none
     |_=>none
    |_,_,_=>none
   |_,_=>none
  |none=>none
 |_=>none
def fullV:AV->Option AV
 |.rwf i=>some (.rw i)
 |.rwc i z c n=>some (.rws i z c n)
 |.rob true l=>some (.rob true l)
 |.roi true k l=>some (.roi true k l)
 |.ros true l=>some (.ros true l)
 |.rov true z l=>some (.rov true z l)
 |_=>none
def WX(P:Program)(h:Heap)(t I:TypeId)(s x:AV):Option (Bool×Bool×AO):=match fullV s,P.underlying t with
 |some B,some (.slice e)=>match P.info? e with
  |some i=>match i.zero,zb1 P h t B,zb1 P h I x,Q9 P e i.size with
   |some J,some j,some o',some H=>match Nat.beq J.cells.size i.size,Nat.ble 1 i.size,Nat.beq (zOf o') i.size,Nat.beq (zOf j) i.size,zlr H j with
    |true,true,true,true,some y=>match zlr y o' with
     |some o2=>some (Nat.ble 1 (lenO o'),X8 j&&(X8 o'&&growOk i.bytes (lenO o2)),o2)
     |none=>none
    |_,_,_,_,_=>none
   |_,_,_,_=>none
  |none=>none
 |_,_=>none
def zq9(h:Heap):AV->Option uAS
 |.str l=>some l
 |v=>yk h v
def zno(h:Heap):AV->Option (Nat×TypeId×uAS×Nat×Nat)
 |.rw i=>match hget h i with
  |some (.bytes T l)=>some (i,T,l,0,l.length)
  |_=>none
 |.rws i 1 c n=>match hget h i with
  |some (.bytes T l)=>some (i,T,l,c.toNat,n.toNat)
  |_=>none
 |_=>none
def zbv(l s:uAS)(o k:Nat):uAS:=l.take o++s.take k++l.drop (o+min s.length k)
def zbT(P:Program)(h:Heap)(t:TypeId)(d x:AV):Option (Nat×Nat×AO):=match P.underlying t with
 |some (.slice e)=>match zH P e,zno h d,zq9 h x with
  |some 1,some (i,T,l,o,k),some s=>some (min s.length k,i,.bytes T (zbv l s o k))
  |_,_,_=>none
 |_=>none
def ztg(s:AV)(i:Nat):AV:=match s with
 |.rwp _=>.rwp i
 |_=>.rw i
def zz0(s:uAS)(pos:Nat):Int:=((Utf8.decode (bs s) pos).1:Int)
def widthAt(s:uAS)(pos:Nat):Nat:=(Utf8.decode (bs s) pos).2
end Go.Am
