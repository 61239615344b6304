/-
  A part of the proof of the laws on moves.
-/
import Derived.Test.YtpghlpmkljkakaaGreatDoorAm1
namespace Go.Am
open Go Go.RowKit Go.Vc
mutual
def idsV:AV→List Nat
 |.ptr i _=>[i]
 |.ep i _ _ _=>[i]
 |.rw i=>[i]
 |.rwp i=>[i]
 |.rwf i=>[i]
 |.rws i _ _ _=>[i]
 |.map i=>[i]
 |.fn _ first cap=>idsL first++idsL cap
 |.agg cs=>idsL cs
 |.tup vs=>idsL vs
 |.iface _ v=>idsV v
 |_=>[]
def idsL:List AV→List Nat
 |[]=>[]
 |v::r=>idsV v++idsL r
end
def idsO:AO→List Nat
 |.cells _ cs=>idsL cs
 |_=>[]
mutual
def jP(σ:Nat→Option Nat):AV→Option AV
 |.ptr i o=>match σ i with
  |some j=>some (.ptr j o)
  |none=>none
 |.ep i z n o=>match σ i with
  |some j=>some (.ep j z n o)
  |none=>none
 |.rw i=>match σ i with
  |some j=>some (.rw j)
  |none=>none
 |.rwp i=>match σ i with
  |some j=>some (.rwp j)
  |none=>none
 |.rwf i=>match σ i with
  |some j=>some (.rwf j)
  |none=>none
 |.rws i z lo n=>match σ i with
  |some j=>some (.rws j z lo n)
  |none=>none
 |.map i=>match σ i with
  |some j=>some (.map j)
  |none=>none
 |.fn f first cap=>match XK σ first,XK σ cap with
  |some a,some b=>some (.fn f a b)
  |_,_=>none
 |.agg cs=>match XK σ cs with
  |some a=>some (.agg a)
  |none=>none
 |.tup vs=>match XK σ vs with
  |some a=>some (.tup a)
  |none=>none
 |.iface t v=>match jP σ v with
  |some a=>some (.iface t a)
  |none=>none
 |.undef=>some .undef
 |.int k n=>some (.int k n)
 |.bool b=>some (.bool b)
 |.str l=>some (.str l)
 |.nilp=>some .nilp
 |.nilf=>some .nilf
 |.nili=>some .nili
 |.nilm=>some .nilm
 |.nils=>some .nils
 |.pos k=>some (.pos k)
 |.rp v=>some (.rp v)
 |.rob f l=>some (.rob f l)
 |.roi f k l=>some (.roi f k l)
 |.ros f l=>some (.ros f l)
 |.rov f z l=>some (.rov f z l)
 |.fns n fs=>some (.fns n fs)
def XK(σ:Nat→Option Nat):List AV→Option (List AV)
 |[]=>some []
 |v::r=>match jP σ v,XK σ r with
  |some a,some b=>some (a::b)
  |_,_=>none
end
def XJ(σ:Nat→Option Nat):AO→Option AO
 |.cells T cs=>match XK σ cs with
  |some a=>some (.cells T a)
  |none=>none
 |o=>some o
def memN(i:Nat):List Nat→Bool
 |[]=>false
 |j::r=>Nat.beq i j||memN i r
def qs(D:List Nat)(v:AV):AV:=match(idsV v).any (fun i=>memN i D)with
 |true=>.undef
 |false=>v
def ye(D:List Nat):Option AO→Option AO
 |some (.cells T cs)=>some (.cells T (cs.map (qs D)))
 |o=>o
def scrub(D:List Nat)(st:St):St:=match D with
 |[]=>st
 |D=>⟨st.s.map fun(t,v)=>(t,qs D v),st.h.map (ye D)⟩
def qJ(h:Heap):Nat→List Nat→List Nat→List Nat
 |0,_,acc=>acc
 |_+1,[],acc=>acc
 |n+1,i::r,acc=>match memN i acc with
  |true=>qJ h n r acc
  |false=>match hget h i with
   |some o=>qJ h n (r++idsO o) (acc++[i])
   |none=>qJ h n r (acc++[i])
def Jg(i:Nat):List Nat→Nat→Option Nat
 |[],_=>none
 |j::r,n=>match Nat.beq i j with
  |true=>some n
  |false=>Jg i r (n+1)
def zct(σ:Nat→Option Nat)(h:Heap):List Nat→Option Heap
 |[]=>some []
 |i::r=>match hget h i,zct σ h r with
  |some o,some v=>match XJ σ o with
   |some o'=>some (some o'::v)
   |none=>none
  |_,_=>none
def zbN:List Nat→Bool
 |[]=>true
 |i::r=>!memN i r&&zbN r
structure Out where
 v:AV
 h:Heap
structure Con where
 f:FuncId
 A:Type
 B:Type
 dec:List AV→Heap→Option A
 spec:A→Option B
 enc:A→B→Out
def Xx{R:Type}(args:List AV)(h:Heap)(k:Out→Option R)(f:FuncId):List Con→Option R
 |[]=>none
 |c::r=>match Nat.beq c.f f with
  |true=>match c.dec args h with
   |some a=>bnd (c.spec a) fun b=>k (c.enc a b)
   |none=>Xx args h k f r
  |false=>Xx args h k f r
def zbd(acc:List Nat)(m nid:Nat)(j:Nat):Option Nat:=match Nat.blt j m with
 |true=>acc[j]?
 |false=>some (nid+(j-m))
def zh9(σ:Nat→Option Nat):Heap→Option Heap
 |[]=>some []
 |none::r=>match zh9 σ r with
  |some v=>some (none::v)
  |none=>none
 |some o::r=>match XJ σ o,zh9 σ r with
  |some o',some v=>some (some o'::v)
  |_,_=>none
def jm(h:Heap):List Nat→Heap→Heap
 |i::r,o::s=>jm (h.set i o) r s
 |_,_=>h
def Xq:List Nat→Heap→List Nat
 |i::r,none::s=>i::Xq r s
 |_::r,some _::s=>Xq r s
 |_,_=>[]
def newIds(nid:Nat)(n:Nat):List Nat:=(List.range n).map (nid+ ·)
def QuietC(C:Con):Prop:=∀args h x r,C.dec args h=some x→C.spec x=some r→(C.enc x r).h=h
structure Env where
 P:Program
 gl:Glob
 Γ:List Con
 N:Nat
 n:Nat
 Q:List FuncId
 hQ:∀f,memN f Q=true→∀C∈Γ,C.f=f→QuietC C
def ya:Nat:=4
def Xw{R:Type}(E:Env)(strict:Bool)(nid:Nat)(f:FuncId)(args:List AV)(st:St)(k:AV→St→Option R):Option R:=
 let acc:=qJ st.h 1000 (idsL args) [];let σ:=fun i=>Jg i acc 0
 match zbN acc,XK σ args,zct σ st.h acc with
 |true,some args',some hv=>Xx args' hv (fun out=>
  let m:=acc.length;let τ:=zbd acc m nid
  match Nat.ble m out.h.length,Nat.ble out.h.length (m+ya),jP τ out.v,zh9 τ out.h with
  |true,true,some v,some ho=>
   let ids:=acc++newIds nid (out.h.length-m)
   match Xq ids ho with
   |[]=>k v ⟨st.s,jm st.h ids ho⟩
   |D=>match strict with
    |true=>none
    |false=>match scrub D ⟨st.s,st.h⟩with
     |⟨s',h'⟩=>k v ⟨s',jm h' ids ho⟩
  |_,_,_,_=>none) f E.Γ
 |_,_,_=>none
def zbb{R:Type}(E:Env)(strict:Bool)(nid:Nat)(n:Int)(args:List AV)(st:St)(k:AV→St→Option R):Nat→List FuncId→Option R
 |_,[]=>none
 |i,f::r=>cond (decide (n=(i:Int))) (Xw E strict nid f args st k) (zbb E strict nid n args st k (i+1) r)
def toByte(n:Int):UInt8:=UInt8.ofNat n.toNat
def Xa(k:IntKind):List AV→Option (Bool×List Int)
 |[]=>some (true,[])
 |.int k' n::r=>match kEq k k',Xa k r with
  |true,some (c,l)=>some (inKb k n&&c,n::l)
  |_,_=>none
 |_=>none
def Vl:List AV→Option (List (List UInt8))
 |[]=>some []
 |.str l::r=>match Vl r with
  |some s=>some (l::s)
  |none=>none
 |_=>none
def WD(n:Nat):Nat→List AV→List AV
 |0,_=>[]
 |m+1,cs=>.agg (cs.take n)::WD n m (cs.drop n)
def zq2(P:Program)(elem:TypeId)(len:Nat)(cs:List AV):Option (Bool×AO):=
 match P.underlying elem,zG P elem with
 |some (.int .u8),some 1=>match Xa .u8 cs,Nat.beq cs.length len with
  |some (c,l),true=>some (c,.bytes elem (l.map toByte))
  |_,_=>none
 |some (.int k),some 1=>match Xa k cs,Nat.beq cs.length len with
  |some (c,l),true=>some (c,.ints elem k l)
  |_,_=>none
 |some .string,some 1=>match Vl cs,Nat.beq cs.length len with
  |some l,true=>some (true,.strs elem l)
  |_,_=>none
 |some (.struct _),some n=>match(idsL cs).isEmpty,cs.all yH,Nat.beq cs.length (len*n)with
  |true,true,true=>some (true,.vals elem n (WD n len cs))
  |_,_,_=>none
 |some (.func _ _ _),some 1=>match(idsL cs).isEmpty,cs.all yH,Nat.beq cs.length len with
  |true,true,true=>some (true,.vals elem 1 cs)
  |_,_,_=>none
 |some .bool,some 1=>match(idsL cs).isEmpty,cs.all yH,Nat.beq cs.length len with
  |true,true,true=>some (true,.vals elem 1 cs)
  |_,_,_=>none
 |_,_=>none
def zt3:Nat→List AV→List AV
 |0,_=>[]
 |n+1,cs=>cs++zt3 n cs
def zja(P:Program)(t:TypeId)(len:Nat)(parts:List (Nat×AV)):Option (Bool×AO):=
 match P.underlying t with
 |some (.slice elem)=>match zG P elem,zgt P elem with
  |some n,some z=>match Nat.ble (len*n) 16777216,Nat.beq z.length n,zfc (fun i=>some (i*n,n)) (zt3 len z) parts with
   |true,true,some cs=>zq2 P elem len cs
   |_,_,_=>none
  |_,_=>none
 |_=>none
def zig(P:Program)(t:TypeId)(l:List AV)(n:Int)(off:Nat):Option (Bool×AV):=match atV l n with
 |.agg cs=>match zen P t cs off with
  |some v=>some (inIx n l.length,v)
  |none=>none
 |_=>none
def zaz(P:Program)(h:Heap)(t:TypeId)(a:AV):Option (Bool×AV):=
 match a with
 |.ptr i o=>match hget h i with
  |some (.cells _ cs)=>match zen P t cs o with
   |some v=>some (true,v)
   |none=>none
  |_=>none
 |.ep i z n 0=>match hget h i,P.underlying t,zG P t,Nat.beq z 1 with
  |some (.bytes _ l),some (.int .u8),some 1,true=>some (inIx n l.length,.int .u8 (byteAt l n))
  |some (.ints _ k l),some (.int k'),some 1,true=>match kEq k k' with
   |true=>some (inIx n l.length,.int k (atI l n))
   |false=>none
  |some (.strs _ l),some .string,some 1,true=>some (inIx n l.length,.str (atS l n))
  |some (.vals _ z' l),some _,some q,_=>match Nat.beq z z',Nat.beq z q,zd5 P t (atV l n)with
   |true,true,some (c,v)=>some (inIx n l.length&&c,v)
   |true,false,_=>zig P t l n 0
   |_,_,_=>none
  |_,_,_,_=>none
 |.ep i z n (off+1)=>match hget h i with
  |some (.vals _ z' l)=>match Nat.beq z z' with
   |true=>zig P t l n (off+1)
   |false=>none
  |_=>none
 |.rp v=>match v,ja P t,zG P t with
  |.agg cs,some true,some n=>match Nat.beq cs.length n,Nat.ble 1 n with
   |true,true=>some (true,.agg cs)
   |_,_=>none
  |.agg _,_,_=>none
  |v,some false,some 1=>some (true,v)
  |_,_,_=>none
 |_=>none
def Qo(P:Program)(h:Heap)(t:TypeId)(a x:AV):Option (Bool×Nat×AO):=
 match a with
 |.ptr i o=>match hget h i,zG P t with
  |some (.cells T cs),some n=>match Nat.beq (cellsA x).length n,Nat.ble (o+n) cs.length,(cellsA x).all yH with
   |true,true,true=>some (true,i,.cells T (setL cs o (cellsA x)))
   |_,_,_=>none
  |_,_=>none
 |.ep i z n 0=>match hget h i,x,zG P t,Nat.beq z 1 with
  |some (.bytes T l),.int .u8 c,some 1,true=>some (inIx n l.length&&inKb .u8 c,i,.bytes T (l.set n.toNat (toByte c)))
  |some (.ints T k l),.int k' c,some 1,true=>match kEq k k' with
   |true=>some (inIx n l.length,i,.ints T k (l.set n.toNat c))
   |false=>none
  |some (.strs T l),.str c,some 1,true=>some (inIx n l.length,i,.strs T (l.set n.toNat c))
  |_,_,_,_=>none
 |_=>none
def rsv(o:Oper):Nat:=match o.op with
 |.alloc _|.box _ _|.buildSlice _ _ _|.convert _ _ _|.range _ _|.makeSlice _ _ _|.makeMap _ _=>1
 |.call {callee:=.value _,..}=>ya
 |.call {callee:=.builtin .append,..}=>1
 |_=>0
def opK{R:Type}(E:Env)(strict:Bool)(nid:Nat)(op:Op)(st:St)(k:AV→St→Option R):Option R:=
 let ev:=opnd E.gl st.s
 match op with
 |.pick c a b=>match ev c with
  |.bool x=>cond x (k (ev a) st) (k (ev b) st)
  |_=>none
 |.alloc T=>match zgt E.P T with
  |some cs=>k (.ptr nid 0) ⟨st.s,st.h.set nid (some (.cells T cs))⟩
  |none=>none
 |.box T x=>match(cellsA (ev x)).all yH with
  |true=>k (.ptr nid 0) ⟨st.s,st.h.set nid (some (.cells T (cellsA (ev x))))⟩
  |false=>none
 |.buildSlice t len parts=>match zja E.P t len (Wr ev parts.toList)with
  |some (c,o)=>chk c (k (.rw nid) ⟨st.s,st.h.set nid (some o)⟩)
  |none=>none
 |.load t a=>match zaz E.P st.h t (ev a)with
  |some (c,v)=>chk c (k v st)
  |none=>none
 |.store t a x=>match Qo E.P st.h t (ev a) (ev x)with
  |some (c,i,o)=>chk c (k .undef ⟨st.s,st.h.set i (some o)⟩)
  |none=>none
 |.call {callee:=.value f,args,..}=>match ev f with
  |.fn g first cap=>Xw E strict nid g (first++args.toList.map ev++cap) st k
  |.fns n fs=>zbb E strict nid n (args.toList.map ev) st k 0 fs
  |_=>none
 |.call {callee:=.builtin .append,args,argTypes}=>match strict,argTypes.toList,args.toList with
  |false,[t,tx],[s,x]=>match zkO E.P st.h t tx (un (ev s)) (un (ev x))with
   |some (c,some j,o)=>chk c (k (zqF (ev s) nid) ⟨(scrub [j] st).s,((scrub [j] st).h.set j none).set nid (some o)⟩)
   |some (c,none,o)=>chk c (k (.rw nid) ⟨st.s,st.h.set nid (some o)⟩)
   |none=>none
  |_,_,_=>none
 |.call {callee:=.builtin .copy,args,argTypes}=>match argTypes.toList,args.toList with
  |t::_::[],[d,x]=>match zcS E.P st.h t (un (ev d)) (un (ev x))with
   |some (q,i,o)=>k (.int .i64 (q:Int)) ⟨st.s,st.h.set i (some o)⟩
   |none=>none
  |_,_=>none
 |.range t x=>match strict,E.P.underlying t,ev x with
  |false,some .string,.str l=>k (.ptr nid 0) ⟨st.s,st.h.set nid (some (.iter l 0))⟩
  |_,_,_=>none
 |.next x true=>match strict,ev x with
  |false,.ptr i 0=>match hget st.h i with
   |some (.iter l pos)=>cond (Nat.blt pos l.length)
    (k (.tup [.bool true,.int .i64 (pos:Int),.int .i32 (yQ l pos)]) ⟨st.s,st.h.set i (some (.iter l (pos+widthAt l pos)))⟩)
    (k (.tup [.bool false]) st)
   |_=>none
  |_,_=>none
 |.makeMap t r=>match r,KX E.P t,r.map ev with
  |none,_,_=>k (.map nid) ⟨st.s,st.h.set nid (some (.mp []))⟩
  |some _,some _,some (.int _ _)=>k (.map nid) ⟨st.s,st.h.set nid (some (.mp []))⟩
  |_,_,_=>none
 |.lookup t x ix ok=>match KX E.P t,Zl st.h (ev x)with
  |some (kt,et),some (_,l)=>match zcG E.P kt (ev ix),zqf E.P et with
   |true,some z=>JX (ev ix) (fun r=>match r with
    |some (_,v)=>k (okV ok v true) st
    |none=>k (okV ok z false) st) l 0
   |_,_=>none
  |_,_=>none
 |.mapUpdate t m x y=>match KX E.P t,Zl st.h (ev m)with
  |some (kt,_),some (i,l)=>match zcG E.P kt (ev x),idsV (ev y)with
   |true,[]=>JX (ev x) (fun r=>k .undef ⟨st.s,st.h.set i (some (.mp (mapPut l (ev x) (ev y) r)))⟩) l 0
   |_,_=>none
  |_,_=>none
 |.insert t m x y=>match KX E.P t,Zl st.h (ev m)with
  |some (kt,_),some (i,l)=>match zcG E.P kt (ev x),idsV (ev y)with
   |true,[]=>JX (ev x) (fun r=>k .undef ⟨st.s,st.h.set i (some (.mp (mapPut l (ev x) (ev y) r)))⟩) l 0
   |_,_=>none
  |_,_=>none
 |op=>match yC E.P st.h ev op with
  |some (c,.val v)=>chk c (k v st)
  |some (c,.row o)=>chk c (k (newV E.gl op nid) ⟨st.s,st.h.set nid (some o)⟩)
  |none=>match yb E.P st.h ev op with
   |some (c,v)=>chk c (k v st)
   |none=>none
def zaR(all:List Oper)(g:Nat):Option Nat:=match all[g]? with
 |some o=>o.dst
 |none=>none
def zlh(n:Nat):Option Nat→Bool
 |none=>true
 |some d=>Nat.blt d n
def yJ{R:Type}(E:Env)(strict:Bool)(all:List Oper):List Oper→Nat→St→(St→Option R)→Option R
 |[],_,st,k=>k st
 |o::r,nid,st,k=>match zlh E.n o.dst with
  |false=>none
  |true=>
   let go:=fun(st:St)=>opK E strict nid o.op st fun v st'=>yJ E strict all r (nid+rsv o) ⟨putO o.dst v st'.s,st'.h⟩ k
   match o.guard with
   |none=>go st
   |some (g,want)=>
    let no:=fun(st:St)=>yJ E strict all r (nid+rsv o) ⟨putO o.dst (.tup []) st.s,st.h⟩ k
    match zaR all g with
    |some t=>match Nat.blt t E.n,get st.s t with
     |true,.bool b=>cond b (cond want (go ⟨put t (.bool true) st.s,st.h⟩) (no ⟨put t (.bool true) st.s,st.h⟩))
      (cond want (no ⟨put t (.bool false) st.s,st.h⟩) (go ⟨put t (.bool false) st.s,st.h⟩))
     |true,.tup []=>no st
     |_,_=>none
    |none=>none
def zQ:List Oper→Nat
 |[]=>0
 |o::r=>rsv o+zQ r
def wide(h:Heap):Nat→Heap
 |0=>h
 |n+1=>wide (h++[none]) n
inductive An where
 |nil
 |seq (a b:An)
 |one (a:An)
 |two (a b:An)
 |cut (j:Nat) (lv:List Nat) (a b:An)
 |loop (j:Nat) (lv:List Nat) (a:An)
def An.l:An→An
 |.seq a _=>a
 |.one a=>a
 |.two a _=>a
 |.cut _ _ a _=>a
 |.loop _ _ a=>a
 |.nil=>.nil
def An.r:An→An
 |.seq _ b=>b
 |.two _ b=>b
 |.cut _ _ _ b=>b
 |_=>.nil
def zgA(σ:Nat→Option Nat)(h:Heap):List Nat→Option Heap
 |[]=>some []
 |i::r=>match h[i]?,zgA σ h r with
  |some (some o),some v=>match XJ σ o with
   |some o'=>some (some o'::v)
   |none=>none
  |some none,some v=>some (none::v)
  |_,_=>none
def zkJ:Heap→List Nat
 |[]=>[]
 |some o::r=>idsO o++zkJ r
 |none::r=>zkJ r
def zuc(m:Nat)(lv:List Nat)(st:St):Option (List AV×Heap):=
 let vs:=lv.map (get st.s);let acc:=qJ st.h 1000 (idsL vs++zkJ (st.h.take m)) (List.range m);let σ:=fun i=>Jg i acc 0
 match zbN acc,XK σ vs,zgA σ st.h acc with
 |true,some vs',some h'=>some (vs',h')
 |_,_,_=>none
def zjk:List Nat→List AV→Slots
 |t::r,v::vs=>(t,v)::zjk r vs
 |_,_=>[]
structure Cont(R:Type) where
 normal:St→Option R
 exits:Nat→St→Option R
 ret:St→Option R
structure Cut(R:Type) where
 X:Type
 dec:List AV→Heap→Option X
 run:List Nat→Nat→X→Option R
def Y6{R:Type}(fl:List Nat)(vs:List AV)(h:Heap)(n:Nat):List (Cut R)→Nat→Option R
 |[],_=>none
 |c::_,0=>match c.dec vs h with
  |some x=>c.run fl n x
  |none=>none
 |_::r,j+1=>Y6 fl vs h n r j
def cutK{R:Type}(cs:List (Cut R))(m j:Nat)(lv:List Nat)(fl:List Nat)(n:Nat)(st:St):Option R:=match zuc m lv st with
 |some (vs,h)=>Y6 fl vs h n cs j
 |none=>none
def zbC{R:Type}(F:(St→Option R)→St→Option R):Nat→St→Option R
 |0,_=>none
 |n+1,st=>F (zbC F n) st
def zk3{R:Type}(E:Env)(ops:List Oper)(st:St)(k:St→Option R):Option R:=yJ E false ops ops st.h.length ⟨st.s,wide st.h (zQ ops)⟩ k
def jr{α:Type}:List α→Bool
 |[]=>true
 |_=>false
def nidOf(ops:List Oper)(base i:Nat):Nat:=base+zQ (ops.take i)
structure Fp where
 r:List Nat
 w:List Nat
 big:Bool
def fpO(Q:List FuncId)(ev:Operand→AV)(nid:Nat)(op:Op):Fp:=match op with
 |.load _ a=>⟨idsV (ev a),[],false⟩
 |.store _ a _=>⟨idsV (ev a),idsV (ev a),false⟩
 |.alloc _|.box _ _|.buildSlice _ _ _|.makeSlice _ _ _|.makeMap _ _=>⟨[],[nid],false⟩
 |.lookup _ x _ _=>⟨idsV (ev x),[],false⟩
 |.mapUpdate _ m _ _|.insert _ m _ _=>⟨idsV (ev m),idsV (ev m),false⟩
 |.indexAddr _ x _|.slice _ x _ _ _=>⟨idsV (ev x),[],false⟩
 |.convert _ _ x=>⟨idsV (ev x),[nid],false⟩
 |.call {callee:=.value f,args,..}=>match ev f with
  |.fn g first cap=>match idsL (first++args.toList.map ev++cap),memN g Q with
   |[],_=>⟨[],newIds nid ya,false⟩
   |_,true=>⟨[0],[],true⟩
   |_,false=>⟨[],[],true⟩
  |.fns _ _=>match idsL (args.toList.map ev)with
   |[]=>⟨[],newIds nid ya,false⟩
   |_=>⟨[],[],true⟩
  |_=>⟨[],[],true⟩
 |.call {callee:=.builtin .copy,args,..}=>⟨idsL (args.toList.map ev),idsL (args.toList.map ev),false⟩
 |.call {callee:=.builtin _,args,..}=>⟨idsL (args.toList.map ev),[],false⟩
 |_=>⟨[],[],false⟩
def zT(all:List Oper)(o:Oper)(st:St):Option Bool:=match o.guard with
 |none=>some true
 |some (g,want)=>match zaR all g with
  |some t=>match get st.s t with
   |.bool b=>some (b==want)
   |.tup []=>some false
   |_=>none
  |none=>none
def fpW(E:Env)(all:List Oper)(st:St)(nid:Nat)(o:Oper):Fp:=match zT all o st with
 |some false=>⟨[],[],false⟩
 |_=>fpO E.Q (opnd E.gl st.s) nid o.op
def zth(a b:List Nat):Bool:=a.all fun i=>!memN i b
def zeq(a b:Fp):Bool:=match a.big,b.big with
 |false,false=>zth a.w b.r&&zth a.w b.w&&zth b.w a.r
 |true,false=>jr b.w&&(jr b.r||(!jr a.r&&jr a.w))
 |false,true=>jr a.w&&(jr a.r||(!jr b.r&&jr b.w))
 |true,true=>(!jr a.r&&jr a.w)&&(!jr b.r&&jr b.w)
def zmw(n:Nat)(ops:List Oper):Bool:=
 let B:=Vc.yu true ops
 ops.zipIdx.all fun(o,i)=>
  ((Vc.edgesOf o).all fun e=>Nat.blt e i)&&
  (match o.dst with
   |some d=>Nat.blt d n&&(match Vc.wrFrom ops 0 d with
    |some j=>Nat.beq j i
    |none=>false)
   |none=>true)&&
  ((o.looksAt ops.toArray).all fun t=>match Vc.wrFrom ops 0 t with
   |some j=>memN j (B[i]?.getD [])
   |none=>true)
def zdq(E:Env)(ops:List Oper)(base:Nat)(st:St):Bool:=
 let B:=Vc.yu true ops;let fps:=ops.zipIdx.map fun(o,i)=>fpW E ops st (nidOf ops base i) o
 fps.zipIdx.all fun(a,i)=>(fps.take i).zipIdx.all fun(b,j)=>memN j (B[i]?.getD [])||zeq b a
def zm1{R:Type}(E:Env)(ops:List Oper)(st:St)(k:St→Option R):Option R:=
 match zmw E.n ops with
 |true=>yJ E true ops ops st.h.length ⟨st.s,wide st.h (zQ ops)⟩ fun st'=>match zdq E ops st.h.length st' with
  |true=>k st'
  |false=>none
 |false=>none
def zii(n m:Nat)(ops:List Oper):Bool:=
 let B:=Vc.yu true ops
 ops.zipIdx.all fun(o,i)=>
  ((Vc.edgesOf o).all fun e=>Nat.blt e i)&&
  (match o.dst with
   |some d=>Nat.blt d n&&(match Vc.wrFrom ops 0 d with
    |some j=>Nat.beq j i
    |none=>false)
   |none=>true)&&
  ((o.looksAt ops.toArray).all fun t=>match Vc.wrFrom ops 0 t with
   |some j=>memN j (B[i]?.getD [])||Nat.ble (ops.length-m) j
   |none=>true)
def zd2(m:Nat)(ops:List Oper):Bool:=
 let B:=Vc.yu true ops
 Nat.ble m ops.length&&(List.range m).all fun d=>match ops[ops.length-m+d]?,B[ops.length-m+d]? with
  |some o,some l=>(match o.guard with
   |none=>true
   |some _=>false)&&(List.range (ops.length-m+d)).all fun j=>memN j l
  |_,_=>false
def zdz{R:Type}(E:Env)(m:Nat)(ops:List Oper)(st:St)(k:St→Option R):Option R:=
 match zii E.n m ops with
 |true=>yJ E true ops (ops.take (ops.length-m)) st.h.length ⟨st.s,wide st.h (zQ ops)⟩ fun st'=>match zdq E ops st.h.length st' with
  |true=>yJ E false ops (ops.drop (ops.length-m)) (nidOf ops st.h.length (ops.length-m)) st' k
  |false=>none
 |false=>none
def zop{R:Type}(E:Env)(ops:List Oper)(st:St)(k:St→Option R):Option R:=match zd2 2 ops with
 |true=>zdz E 2 ops st k
 |false=>match zd2 1 ops with
  |true=>zdz E 1 ops st k
  |false=>zm1 E ops st k
def zdx{R:Type}(i:Nat)(K:Cont R):Cont R:=⟨K.normal,fun j st=>match Nat.beq j i with
 |true=>K.normal st
 |false=>K.exits j st,K.ret⟩
def ev{R:Type}(E:Env)(cs:List (Cut R))(m:Nat):List Nat→Code→An→St→Cont R→Option R
 |_,.skip,_,st,K=>K.normal st
 |_,.label _,_,st,K=>K.normal st
 |_,.ret,_,st,K=>K.ret st
 |_,.exit i,_,st,K=>K.exits i st
 |_,.region _ ops draw,_,st,K=>match draw with
  |false=>zk3 E ops.toList st K.normal
  |true=>zop E ops.toList st K.normal
 |fl,.seq a b,an,st,K=>match an with
  |.cut j lv la _=>ev E cs m fl a la st ⟨cutK cs m j lv fl 1,K.exits,K.ret⟩
  |an=>ev E cs m fl a an.l st ⟨fun st'=>ev E cs m fl b an.r st' K,K.exits,K.ret⟩
 |fl,.cond c a b,an,st,K=>match opnd E.gl st.s c with
  |.bool x=>cond x (ev E cs m fl a an.l st K) (ev E cs m fl b an.r st K)
  |_=>none
 |fl,.block i a,an,st,K=>ev E cs m fl a an.l st (zdx i K)
 |fl,.loop a,an,st,K=>match an with
  |.loop j lv _=>cutK cs m j lv fl E.N st
  |_=>zbC (fun again st'=>ev E cs m fl a .nil st' ⟨again,K.exits,K.ret⟩) 64 st
 |_,_,_,_,_=>none
def jj{R:Type}(E:Env)(cs:List (Cut R))(m:Nat)(j n:Nat)(vs:List AV)(h:Heap):List Nat→List Nat→Code→An→Cont R→List (Option R)
 |fs,fl,.seq a b,an,K=>match an with
  |.cut j' lv la lb=>(match Nat.beq j' j,fs with
   |true,[]=>[ev E cs m fl b lb ⟨zjk lv vs,h⟩ K]
   |_,_=>[])++(jj E cs m j n vs h fs fl a la ⟨cutK cs m j' lv fl 1,K.exits,K.ret⟩++jj E cs m j n vs h fs fl b lb K)
  |an=>jj E cs m j n vs h fs fl a an.l ⟨fun st'=>ev E cs m fl b an.r st' K,K.exits,K.ret⟩++jj E cs m j n vs h fs fl b an.r K
 |fs,fl,.cond _ a b,an,K=>jj E cs m j n vs h fs fl a an.l K++jj E cs m j n vs h fs fl b an.r K
 |fs,fl,.block i a,an,K=>jj E cs m j n vs h fs fl a an.l (zdx i K)
 |fs,fl,.loop a,an,K=>match an with
  |.loop j' lv la=>(match Nat.beq j' j,fs with
   |true,[]=>[ev E cs m (n::fl) a la ⟨zjk lv vs,h⟩ ⟨cutK cs m j' lv fl n,K.exits,K.ret⟩]
   |_,_=>[])++(match fs with
   |[]=>[]
   |n'::fs'=>jj E cs m j n vs h fs' (n'::fl) a la ⟨cutK cs m j' lv fl n',K.exits,K.ret⟩)
  |_=>[]
 |_,_,_,_,_=>[]
def j9(j:Nat):Nat→Code→An→List Nat
 |d,.seq a b,an=>match an with
  |.cut j' _ la lb=>(match Nat.beq j' j with
   |true=>[d]
   |false=>[])++(j9 j d a la++j9 j d b lb)
  |an=>j9 j d a an.l++j9 j d b an.r
 |d,.cond _ a b,an=>j9 j d a an.l++j9 j d b an.r
 |d,.block _ a,an=>j9 j d a an.l
 |d,.loop a,an=>match an with
  |.loop j' _ la=>(match Nat.beq j' j with
   |true=>[d]
   |false=>[])++j9 j (d+1) a la
  |_=>[]
 |_,_,_=>[]
def zmn(P:Program)(st:St):List ResultVar→Option (List AV)
 |[]=>some []
 |.tmp t::r=>match zmn P st r with
  |some vs=>some (get st.s t::vs)
  |none=>none
 |.cell t T::r=>match zaz P st.h T (get st.s t),zmn P st r with
  |some (true,v),some vs=>some (v::vs)
  |_,_=>none
def sealP(m:Nat)(h:Heap)(v:AV):AV:=match v with
 |.ptr i 0=>match Nat.ble m i,hget h i with
  |true,some (.cells _ [u])=>match jr (idsV u),yH u with
   |true,true=>.rp u
   |_,_=>v
  |_,_=>v
 |v=>v
def sealQ(m:Nat)(h:Heap)(v:AV):List Nat:=match v with
 |.ptr i 0=>match Nat.ble m i,hget h i with
  |true,some (.cells _ [u])=>match jr (idsV u),yH u with
   |true,true=>[i]
   |_,_=>[]
  |_,_=>[]
 |_=>[]
def sealV(m:Nat)(h:Heap):AV→AV
 |.fn f first cap=>.fn f first (cap.map (sealP m h))
 |.rw i=>match Nat.ble m i,hget h i with
  |true,some (.bytes _ l)=>.rob false l
  |true,some (.ints _ k l)=>.roi false k l
  |true,some (.strs _ l)=>.ros false l
  |true,some (.vals _ z l)=>.rov false z l
  |_,_=>.rw i
 |.rwf i=>match Nat.ble m i,hget h i with
  |true,some (.bytes _ l)=>.rob true l
  |true,some (.ints _ k l)=>.roi true k l
  |_,_=>.rwf i
 |v=>v
def sealI(m:Nat)(h:Heap):AV→List Nat
 |.fn _ _ cap=>cap.flatMap (sealQ m h)
 |.rw i=>match Nat.ble m i,hget h i with
  |true,some (.bytes _ _)|true,some (.ints _ _ _)|true,some (.strs _ _)|true,some (.vals _ _ _)=>[i]
  |_,_=>[]
 |.rwf i=>match Nat.ble m i,hget h i with
  |true,some (.bytes _ _)|true,some (.ints _ _ _)=>[i]
  |_,_=>[]
 |_=>[]
def sealA(m:Nat)(h:Heap):AV→AV
 |.agg cs=>.agg (cs.map (sealV m h))
 |v=>sealV m h v
def sealJ(m:Nat)(h:Heap):AV→List Nat
 |.agg cs=>cs.flatMap (sealI m h)
 |v=>sealI m h v
def resV(vs:List AV):AV:=match vs with
 |[v]=>v
 |vs=>.tup vs
def yS:List Nat→Heap→Heap
 |[],h=>h
 |i::r,h=>yS r (h.set i none)
def fin(P:Program)(m:Nat)(results:List ResultVar)(st:St):Option Out:=
 match zmn P st results with
 |some vs=>
  let D:=vs.flatMap (sealJ m st.h);let v:=resV (vs.map (sealA m st.h));let h1:=yS D (scrub D st).h;let acc:=qJ h1 1000 (idsV v++zkJ (h1.take m)) (List.range m);let σ:=fun i=>Jg i acc 0
  match zbN acc,(idsV v).any (fun i=>memN i D),jP σ v,zgA σ h1 acc with
  |true,false,some v',some h'=>some ⟨v',h'⟩
  |_,_,_,_=>none
 |none=>none
def zsE{R:Type}(P:Program)(m:Nat)(results:List ResultVar)(dec:Out→Option R)(st:St):Option R:=
 match fin P m results st with
 |some o=>dec o
 |none=>none
def zp2:Nat→List AV→Slots
 |_,[]=>[]
 |i,v::r=>(i,v)::zp2 (i+1) r
def zsF{R:Type}(P:Program)(m:Nat)(results:List ResultVar)(dec:Out→Option R):Cont R:=⟨zsE P m results dec,fun _ _=>none,zsE P m results dec⟩
def evF{R:Type}(E:Env)(cs:List (Cut R))(code:Code)(an:An)(results:List ResultVar)(dec:Out→Option R)(args:List AV)(h:Heap):Option R:=ev E cs h.length [] code an ⟨zp2 0 args,h⟩ (zsF E.P h.length results dec)
def QQ{R:Type}(E:Env)(cs:List (Cut R))(m:Nat)(code:Code)(an:An)(results:List ResultVar)(dec:Out→Option R)(j:Nat)(fs:List Nat)(n:Nat)(vs:List AV)(h:Heap):List (Option R):=jj E cs m j n vs h fs [] code an (zsF E.P m results dec)
end Go.Am
