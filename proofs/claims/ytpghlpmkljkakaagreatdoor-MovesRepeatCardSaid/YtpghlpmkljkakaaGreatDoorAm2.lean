/-
  A part of the proof of the laws on moves.
-/
import Derived.Test.YtpghlpmkljkakaaGreatDoorAm1
namespace Go.Am
open Go Go.RowKit Go.Vc
mutual
def idsV:AV→List Nat
 |.ptr i _=>[i]
 |.ep i _ _ _=>[i]
 |.rw i=>[i]
 |.rwp i=>[i]
 |.rws i _ _ _=>[i]
 |.map i=>[i]
 |.fn _ first cap=>idsL first++idsL cap
 |.agg cs=>idsL cs
 |.tup vs=>idsL vs
 |.iface _ v=>idsV v
 |_=>[]
def idsL:List AV→List Nat
 |[]=>[]
 |v::r=>idsV v++idsL r
end
def idsO:AO→List Nat
 |.cells _ cs=>idsL cs
 |_=>[]
mutual
def j3(σ:Nat→Option Nat):AV→Option AV
 |.ptr i o=>match σ i with
  |some j=>some (.ptr j o)
  |none=>none
 |.ep i z n o=>match σ i with
  |some j=>some (.ep j z n o)
  |none=>none
 |.rw i=>match σ i with
  |some j=>some (.rw j)
  |none=>none
 |.rwp i=>match σ i with
  |some j=>some (.rwp j)
  |none=>none
 |.rws i z lo n=>match σ i with
  |some j=>some (.rws j z lo n)
  |none=>none
 |.map i=>match σ i with
  |some j=>some (.map j)
  |none=>none
 |.fn f first cap=>match XK σ first,XK σ cap with
  |some a,some b=>some (.fn f a b)
  |_,_=>none
 |.agg cs=>match XK σ cs with
  |some a=>some (.agg a)
  |none=>none
 |.tup vs=>match XK σ vs with
  |some a=>some (.tup a)
  |none=>none
 |.iface t v=>match j3 σ v with
  |some a=>some (.iface t a)
  |none=>none
 |.undef=>some .undef
 |.int k n=>some (.int k n)
 |.bool b=>some (.bool b)
 |.str l=>some (.str l)
 |.nilp=>some .nilp
 |.nilf=>some .nilf
 |.nili=>some .nili
 |.nilm=>some .nilm
 |.nils=>some .nils
 |.pos k=>some (.pos k)
 |.rp v=>some (.rp v)
 |.rob f l=>some (.rob f l)
 |.roi f k l=>some (.roi f k l)
 |.ros f l=>some (.ros f l)
 |.rov f z l=>some (.rov f z l)
 |.fns n fs=>some (.fns n fs)
def XK(σ:Nat→Option Nat):List AV→Option (List AV)
 |[]=>some []
 |v::r=>match j3 σ v,XK σ r with
  |some a,some b=>some (a::b)
  |_,_=>none
end
def XJ(σ:Nat→Option Nat):AO→Option AO
 |.cells T cs=>match XK σ cs with
  |some a=>some (.cells T a)
  |none=>none
 |o=>some o
def memN(i:Nat):List Nat→Bool
 |[]=>false
 |j::r=>Nat.beq i j||memN i r
def qo(D:List Nat)(v:AV):AV:=match(idsV v).any (fun i=>memN i D)with
 |true=>.undef
 |false=>v
def ya(D:List Nat):Option AO→Option AO
 |some (.cells T cs)=>some (.cells T (cs.map (qo D)))
 |o=>o
def scrub(D:List Nat)(st:St):St:=match D with
 |[]=>st
 |D=>⟨st.s.map fun(t,v)=>(t,qo D v),st.h.map (ya D)⟩
def qI(h:Heap):Nat→List Nat→List Nat→List Nat
 |0,_,acc=>acc
 |_+1,[],acc=>acc
 |n+1,i::r,acc=>match memN i acc with
  |true=>qI h n r acc
  |false=>match hget h i with
   |some o=>qI h n (r++idsO o) (acc++[i])
   |none=>qI h n r (acc++[i])
def Jm(i:Nat):List Nat→Nat→Option Nat
 |[],_=>none
 |j::r,n=>match Nat.beq i j with
  |true=>some n
  |false=>Jm i r (n+1)
def zco(σ:Nat→Option Nat)(h:Heap):List Nat→Option Heap
 |[]=>some []
 |i::r=>match hget h i,zco σ h r with
  |some o,some v=>match XJ σ o with
   |some o'=>some (some o'::v)
   |none=>none
  |_,_=>none
def zbJ:List Nat→Bool
 |[]=>true
 |i::r=>!memN i r&&zbJ r
structure Out where
 v:AV
 h:Heap
structure Con where
 f:FuncId
 A:Type
 B:Type
 dec:List AV→Heap→Option A
 spec:A→Option B
 enc:A→B→Out
def Xw{R:Type}(args:List AV)(h:Heap)(k:Out→Option R)(f:FuncId):List Con→Option R
 |[]=>none
 |c::r=>match Nat.beq c.f f with
  |true=>match c.dec args h with
   |some a=>bnd (c.spec a) fun b=>k (c.enc a b)
   |none=>Xw args h k f r
  |false=>Xw args h k f r
def za9(acc:List Nat)(m nid:Nat)(j:Nat):Option Nat:=match Nat.blt j m with
 |true=>acc[j]?
 |false=>some (nid+(j-m))
def zhO(σ:Nat→Option Nat):Heap→Option Heap
 |[]=>some []
 |none::r=>match zhO σ r with
  |some v=>some (none::v)
  |none=>none
 |some o::r=>match XJ σ o,zhO σ r with
  |some o',some v=>some (some o'::v)
  |_,_=>none
def jq(h:Heap):List Nat→Heap→Heap
 |i::r,o::s=>jq (h.set i o) r s
 |_,_=>h
def Xp:List Nat→Heap→List Nat
 |i::r,none::s=>i::Xp r s
 |_::r,some _::s=>Xp r s
 |_,_=>[]
def newIds(nid:Nat)(n:Nat):List Nat:=(List.range n).map (nid+ ·)
def QuietC(C:Con):Prop:=∀args h x r,C.dec args h=some x→C.spec x=some r→(C.enc x r).h=h
structure Env where
 P:Program
 gl:Glob
 Γ:List Con
 N:Nat
 n:Nat
 Q:List FuncId
 hQ:∀f,memN f Q=true→∀C∈Γ,C.f=f→QuietC C
def j5:Nat:=4
def Xv{R:Type}(E:Env)(strict:Bool)(nid:Nat)(f:FuncId)(args:List AV)(st:St)(k:AV→St→Option R):Option R:=
 let acc:=qI st.h 1000 (idsL args) [];let σ:=fun i=>Jm i acc 0
 match zbJ acc,XK σ args,zco σ st.h acc with
 |true,some args',some hv=>Xw args' hv (fun out=>
  let m:=acc.length;let τ:=za9 acc m nid
  match Nat.ble m out.h.length,Nat.ble out.h.length (m+j5),j3 τ out.v,zhO τ out.h with
  |true,true,some v,some ho=>
   let ids:=acc++newIds nid (out.h.length-m)
   match Xp ids ho with
   |[]=>k v ⟨st.s,jq st.h ids ho⟩
   |D=>match strict with
    |true=>none
    |false=>match scrub D ⟨st.s,st.h⟩with
     |⟨s',h'⟩=>k v ⟨s',jq h' ids ho⟩
  |_,_,_,_=>none) f E.Γ
 |_,_,_=>none
def za6{R:Type}(E:Env)(strict:Bool)(nid:Nat)(n:Int)(args:List AV)(st:St)(k:AV→St→Option R):Nat→List FuncId→Option R
 |_,[]=>none
 |i,f::r=>cond (decide (n=(i:Int))) (Xv E strict nid f args st k) (za6 E strict nid n args st k (i+1) r)
def toByte(n:Int):UInt8:=UInt8.ofNat n.toNat
def Q9(k:IntKind):List AV→Option (Bool×List Int)
 |[]=>some (true,[])
 |.int k' n::r=>match kEq k k',Q9 k r with
  |true,some (c,l)=>some (inKb k n&&c,n::l)
  |_,_=>none
 |_=>none
def Vf:List AV→Option (List (List UInt8))
 |[]=>some []
 |.str l::r=>match Vf r with
  |some s=>some (l::s)
  |none=>none
 |_=>none
def Wq(n:Nat):Nat→List AV→List AV
 |0,_=>[]
 |m+1,cs=>.agg (cs.take n)::Wq n m (cs.drop n)
def zqy(P:Program)(elem:TypeId)(len:Nat)(cs:List AV):Option (Bool×AO):=
 match P.underlying elem,zH P elem with
 |some (.int .u8),some 1=>match Q9 .u8 cs,Nat.beq cs.length len with
  |some (c,l),true=>some (c,.bytes elem (l.map toByte))
  |_,_=>none
 |some (.int k),some 1=>match Q9 k cs,Nat.beq cs.length len with
  |some (c,l),true=>some (c,.ints elem k l)
  |_,_=>none
 |some .string,some 1=>match Vf cs,Nat.beq cs.length len with
  |some l,true=>some (true,.strs elem l)
  |_,_=>none
 |some (.struct _),some n=>match(idsL cs).isEmpty,cs.all yD,Nat.beq cs.length (len*n)with
  |true,true,true=>some (true,.vals elem n (Wq n len cs))
  |_,_,_=>none
 |some (.func _ _ _),some 1=>match(idsL cs).isEmpty,cs.all yD,Nat.beq cs.length len with
  |true,true,true=>some (true,.vals elem 1 cs)
  |_,_,_=>none
 |some .bool,some 1=>match(idsL cs).isEmpty,cs.all yD,Nat.beq cs.length len with
  |true,true,true=>some (true,.vals elem 1 cs)
  |_,_,_=>none
 |_,_=>none
def zts:Nat→List AV→List AV
 |0,_=>[]
 |n+1,cs=>cs++zts n cs
def ziM(P:Program)(t:TypeId)(len:Nat)(parts:List (Nat×AV)):Option (Bool×AO):=
 match P.underlying t with
 |some (.slice elem)=>match zH P elem,zgc P elem with
  |some n,some z=>match Nat.ble (len*n) 16777216,Nat.beq z.length n,ze2 (fun i=>some (i*n,n)) (zts len z) parts with
   |true,true,some cs=>zqy P elem len cs
   |_,_,_=>none
  |_,_=>none
 |_=>none
def zhT(P:Program)(t:TypeId)(l:List AV)(n:Int)(off:Nat):Option (Bool×AV):=match atV l n with
 |.agg cs=>match zee P t cs off with
  |some v=>some (inIx n l.length,v)
  |none=>none
 |_=>none
def zaq(P:Program)(h:Heap)(t:TypeId)(a:AV):Option (Bool×AV):=
 match a with
 |.ptr i o=>match hget h i with
  |some (.cells _ cs)=>match zee P t cs o with
   |some v=>some (true,v)
   |none=>none
  |_=>none
 |.ep i z n 0=>match hget h i,P.underlying t,zH P t,Nat.beq z 1 with
  |some (.bytes _ l),some (.int .u8),some 1,true=>some (inIx n l.length,.int .u8 (byteAt l n))
  |some (.ints _ k l),some (.int k'),some 1,true=>match kEq k k' with
   |true=>some (inIx n l.length,.int k (atI l n))
   |false=>none
  |some (.strs _ l),some .string,some 1,true=>some (inIx n l.length,.str (atS l n))
  |some (.vals _ z' l),some _,some q,_=>match Nat.beq z z',Nat.beq z q,zdX P t (atV l n)with
   |true,true,some (c,v)=>some (inIx n l.length&&c,v)
   |true,false,_=>zhT P t l n 0
   |_,_,_=>none
  |_,_,_,_=>none
 |.ep i z n (off+1)=>match hget h i with
  |some (.vals _ z' l)=>match Nat.beq z z' with
   |true=>zhT P t l n (off+1)
   |false=>none
  |_=>none
 |.rp v=>match v,jc P t,zH P t with
  |.agg cs,some true,some n=>match Nat.beq cs.length n,Nat.ble 1 n with
   |true,true=>some (true,.agg cs)
   |_,_=>none
  |.agg _,_,_=>none
  |v,some false,some 1=>some (true,v)
  |_,_,_=>none
 |_=>none
def Qq(P:Program)(h:Heap)(t:TypeId)(a x:AV):Option (Bool×Nat×AO):=
 match a with
 |.ptr i o=>match hget h i,zH P t with
  |some (.cells T cs),some n=>match Nat.beq (cellsA x).length n,Nat.ble (o+n) cs.length,(cellsA x).all yD with
   |true,true,true=>some (true,i,.cells T (setL cs o (cellsA x)))
   |_,_,_=>none
  |_,_=>none
 |.ep i z n 0=>match hget h i,x,zH P t,Nat.beq z 1 with
  |some (.bytes T l),.int .u8 c,some 1,true=>some (inIx n l.length&&inKb .u8 c,i,.bytes T (l.set n.toNat (toByte c)))
  |some (.ints T k l),.int k' c,some 1,true=>match kEq k k' with
   |true=>some (inIx n l.length,i,.ints T k (l.set n.toNat c))
   |false=>none
  |some (.strs T l),.str c,some 1,true=>some (inIx n l.length,i,.strs T (l.set n.toNat c))
  |_,_,_,_=>none
 |_=>none
def rsv(o:Oper):Nat:=match o.op with
 |.alloc _|.box _ _|.buildSlice _ _ _|.convert _ _ _|.range _ _|.makeSlice _ _ _|.makeMap _ _=>1
 |.call {callee:=.value _,..}=>j5
 |.call {callee:=.builtin .append,..}=>1
 |_=>0
def opK{R:Type}(E:Env)(strict:Bool)(nid:Nat)(op:Op)(st:St)(k:AV→St→Option R):Option R:=
 let ev:=opnd E.gl st.s
 match op with
 |.pick c a b=>match ev c with
  |.bool x=>cond x (k (ev a) st) (k (ev b) st)
  |_=>none
 |.alloc T=>match zgc E.P T with
  |some cs=>k (.ptr nid 0) ⟨st.s,st.h.set nid (some (.cells T cs))⟩
  |none=>none
 |.box T x=>match(cellsA (ev x)).all yD with
  |true=>k (.ptr nid 0) ⟨st.s,st.h.set nid (some (.cells T (cellsA (ev x))))⟩
  |false=>none
 |.buildSlice t len parts=>match ziM E.P t len (Wi ev parts.toList)with
  |some (c,o)=>chk c (k (.rw nid) ⟨st.s,st.h.set nid (some o)⟩)
  |none=>none
 |.load t a=>match zaq E.P st.h t (ev a)with
  |some (c,v)=>chk c (k v st)
  |none=>none
 |.store t a x=>match Qq E.P st.h t (ev a) (ev x)with
  |some (c,i,o)=>chk c (k .undef ⟨st.s,st.h.set i (some o)⟩)
  |none=>none
 |.call {callee:=.value f,args,..}=>match ev f with
  |.fn g first cap=>Xv E strict nid g (first++args.toList.map ev++cap) st k
  |.fns n fs=>za6 E strict nid n (args.toList.map ev) st k 0 fs
  |_=>none
 |.call {callee:=.builtin .append,args,argTypes}=>match strict,argTypes.toList,args.toList with
  |false,[t,tx],[s,x]=>match zkq E.P st.h t tx (ev s) (ev x)with
   |some (c,some j,o)=>chk c (k (zp9 (ev s) nid) ⟨(scrub [j] st).s,((scrub [j] st).h.set j none).set nid (some o)⟩)
   |some (c,none,o)=>chk c (k (.rw nid) ⟨st.s,st.h.set nid (some o)⟩)
   |none=>none
  |_,_,_=>none
 |.call {callee:=.builtin .copy,args,argTypes}=>match argTypes.toList,args.toList with
  |t::_::[],[d,x]=>match zcJ E.P st.h t (ev d) (ev x)with
   |some (q,i,o)=>k (.int .i64 (q:Int)) ⟨st.s,st.h.set i (some o)⟩
   |none=>none
  |_,_=>none
 |.range t x=>match strict,E.P.underlying t,ev x with
  |false,some .string,.str l=>k (.ptr nid 0) ⟨st.s,st.h.set nid (some (.iter l 0))⟩
  |_,_,_=>none
 |.next x true=>match strict,ev x with
  |false,.ptr i 0=>match hget st.h i with
   |some (.iter l pos)=>cond (Nat.blt pos l.length)
    (k (.tup [.bool true,.int .i64 (pos:Int),.int .i32 (yN l pos)]) ⟨st.s,st.h.set i (some (.iter l (pos+widthAt l pos)))⟩)
    (k (.tup [.bool false]) st)
   |_=>none
  |_,_=>none
 |.makeMap t r=>match r,KT E.P t,r.map ev with
  |none,_,_=>k (.map nid) ⟨st.s,st.h.set nid (some (.mp []))⟩
  |some _,some _,some (.int _ _)=>k (.map nid) ⟨st.s,st.h.set nid (some (.mp []))⟩
  |_,_,_=>none
 |.lookup t x ix ok=>match KT E.P t,Zj st.h (ev x)with
  |some (kt,et),some (_,l)=>match zcy E.P kt (ev ix),zpI E.P et with
   |true,some z=>J1 (ev ix) (fun r=>match r with
    |some (_,v)=>k (okV ok v true) st
    |none=>k (okV ok z false) st) l 0
   |_,_=>none
  |_,_=>none
 |.mapUpdate t m x y=>match KT E.P t,Zj st.h (ev m)with
  |some (kt,_),some (i,l)=>match zcy E.P kt (ev x),idsV (ev y)with
   |true,[]=>J1 (ev x) (fun r=>k .undef ⟨st.s,st.h.set i (some (.mp (mapPut l (ev x) (ev y) r)))⟩) l 0
   |_,_=>none
  |_,_=>none
 |.insert t m x y=>match KT E.P t,Zj st.h (ev m)with
  |some (kt,_),some (i,l)=>match zcy E.P kt (ev x),idsV (ev y)with
   |true,[]=>J1 (ev x) (fun r=>k .undef ⟨st.s,st.h.set i (some (.mp (mapPut l (ev x) (ev y) r)))⟩) l 0
   |_,_=>none
  |_,_=>none
 |op=>match ju E.P st.h ev op with
  |some (c,.val v)=>chk c (k v st)
  |some (c,.row o)=>chk c (k (.rw nid) ⟨st.s,st.h.set nid (some o)⟩)
  |none=>match j6 E.P st.h ev op with
   |some (c,v)=>chk c (k v st)
   |none=>none
def zaI(all:List Oper)(g:Nat):Option Nat:=match all[g]? with
 |some o=>o.dst
 |none=>none
def zkR(n:Nat):Option Nat→Bool
 |none=>true
 |some d=>Nat.blt d n
def yF{R:Type}(E:Env)(strict:Bool)(all:List Oper):List Oper→Nat→St→(St→Option R)→Option R
 |[],_,st,k=>k st
 |o::r,nid,st,k=>match zkR E.n o.dst with
  |false=>none
  |true=>
   let go:=fun(st:St)=>opK E strict nid o.op st fun v st'=>yF E strict all r (nid+rsv o) ⟨putO o.dst v st'.s,st'.h⟩ k
   match o.guard with
   |none=>go st
   |some (g,want)=>
    let no:=fun(st:St)=>yF E strict all r (nid+rsv o) ⟨putO o.dst (.tup []) st.s,st.h⟩ k
    match zaI all g with
    |some t=>match Nat.blt t E.n,get st.s t with
     |true,.bool b=>cond b (cond want (go ⟨put t (.bool true) st.s,st.h⟩) (no ⟨put t (.bool true) st.s,st.h⟩))
      (cond want (no ⟨put t (.bool false) st.s,st.h⟩) (go ⟨put t (.bool false) st.s,st.h⟩))
     |true,.tup []=>no st
     |_,_=>none
    |none=>none
def zU:List Oper→Nat
 |[]=>0
 |o::r=>rsv o+zU r
def wide(h:Heap):Nat→Heap
 |0=>h
 |n+1=>wide (h++[none]) n
inductive An where
 |nil
 |seq (a b:An)
 |one (a:An)
 |two (a b:An)
 |cut (j:Nat) (lv:List Nat) (a b:An)
 |loop (j:Nat) (lv:List Nat) (a:An)
def An.l:An→An
 |.seq a _=>a
 |.one a=>a
 |.two a _=>a
 |.cut _ _ a _=>a
 |.loop _ _ a=>a
 |.nil=>.nil
def An.r:An→An
 |.seq _ b=>b
 |.two _ b=>b
 |.cut _ _ _ b=>b
 |_=>.nil
def zgj(σ:Nat→Option Nat)(h:Heap):List Nat→Option Heap
 |[]=>some []
 |i::r=>match h[i]?,zgj σ h r with
  |some (some o),some v=>match XJ σ o with
   |some o'=>some (some o'::v)
   |none=>none
  |some none,some v=>some (none::v)
  |_,_=>none
def zkl:Heap→List Nat
 |[]=>[]
 |some o::r=>idsO o++zkl r
 |none::r=>zkl r
def ztB(m:Nat)(lv:List Nat)(st:St):Option (List AV×Heap):=
 let vs:=lv.map (get st.s);let acc:=qI st.h 1000 (idsL vs++zkl (st.h.take m)) (List.range m);let σ:=fun i=>Jm i acc 0
 match zbJ acc,XK σ vs,zgj σ st.h acc with
 |true,some vs',some h'=>some (vs',h')
 |_,_,_=>none
def ziX:List Nat→List AV→Slots
 |t::r,v::vs=>(t,v)::ziX r vs
 |_,_=>[]
structure Cont(R:Type) where
 normal:St→Option R
 exits:Nat→St→Option R
 ret:St→Option R
structure Cut(R:Type) where
 X:Type
 dec:List AV→Heap→Option X
 run:List Nat→Nat→X→Option R
def Y7{R:Type}(fl:List Nat)(vs:List AV)(h:Heap)(n:Nat):List (Cut R)→Nat→Option R
 |[],_=>none
 |c::_,0=>match c.dec vs h with
  |some x=>c.run fl n x
  |none=>none
 |_::r,j+1=>Y7 fl vs h n r j
def cutK{R:Type}(cs:List (Cut R))(m j:Nat)(lv:List Nat)(fl:List Nat)(n:Nat)(st:St):Option R:=match ztB m lv st with
 |some (vs,h)=>Y7 fl vs h n cs j
 |none=>none
def zby{R:Type}(F:(St→Option R)→St→Option R):Nat→St→Option R
 |0,_=>none
 |n+1,st=>F (zby F n) st
def zkE{R:Type}(E:Env)(ops:List Oper)(st:St)(k:St→Option R):Option R:=yF E false ops ops st.h.length ⟨st.s,wide st.h (zU ops)⟩ k
def jF{α:Type}:List α→Bool
 |[]=>true
 |_=>false
def nidOf(ops:List Oper)(base i:Nat):Nat:=base+zU (ops.take i)
structure Fp where
 r:List Nat
 w:List Nat
 big:Bool
def fpO(Q:List FuncId)(ev:Operand→AV)(nid:Nat)(op:Op):Fp:=match op with
 |.load _ a=>⟨idsV (ev a),[],false⟩
 |.store _ a _=>⟨idsV (ev a),idsV (ev a),false⟩
 |.alloc _|.box _ _|.buildSlice _ _ _|.makeSlice _ _ _|.makeMap _ _=>⟨[],[nid],false⟩
 |.lookup _ x _ _=>⟨idsV (ev x),[],false⟩
 |.mapUpdate _ m _ _|.insert _ m _ _=>⟨idsV (ev m),idsV (ev m),false⟩
 |.indexAddr _ x _|.slice _ x _ _ _=>⟨idsV (ev x),[],false⟩
 |.convert _ _ x=>⟨idsV (ev x),[nid],false⟩
 |.call {callee:=.value f,args,..}=>match ev f with
  |.fn g first cap=>match idsL (first++args.toList.map ev++cap),memN g Q with
   |[],_=>⟨[],newIds nid j5,false⟩
   |_,true=>⟨[0],[],true⟩
   |_,false=>⟨[],[],true⟩
  |.fns _ _=>match idsL (args.toList.map ev)with
   |[]=>⟨[],newIds nid j5,false⟩
   |_=>⟨[],[],true⟩
  |_=>⟨[],[],true⟩
 |.call {callee:=.builtin .copy,args,..}=>⟨idsL (args.toList.map ev),idsL (args.toList.map ev),false⟩
 |.call {callee:=.builtin _,args,..}=>⟨idsL (args.toList.map ev),[],false⟩
 |_=>⟨[],[],false⟩
def zW(all:List Oper)(o:Oper)(st:St):Option Bool:=match o.guard with
 |none=>some true
 |some (g,want)=>match zaI all g with
  |some t=>match get st.s t with
   |.bool b=>some (b==want)
   |.tup []=>some false
   |_=>none
  |none=>none
def fpW(E:Env)(all:List Oper)(st:St)(nid:Nat)(o:Oper):Fp:=match zW all o st with
 |some false=>⟨[],[],false⟩
 |_=>fpO E.Q (opnd E.gl st.s) nid o.op
def zsH(a b:List Nat):Bool:=a.all fun i=>!memN i b
def zeh(a b:Fp):Bool:=match a.big,b.big with
 |false,false=>zsH a.w b.r&&zsH a.w b.w&&zsH b.w a.r
 |true,false=>jF b.w&&(jF b.r||(!jF a.r&&jF a.w))
 |false,true=>jF a.w&&(jF a.r||(!jF b.r&&jF b.w))
 |true,true=>(!jF a.r&&jF a.w)&&(!jF b.r&&jF b.w)
def zl2(n:Nat)(ops:List Oper):Bool:=
 let B:=Vc.yl true ops
 ops.zipIdx.all fun(o,i)=>
  ((Vc.edgesOf o).all fun e=>Nat.blt e i)&&
  (match o.dst with
   |some d=>Nat.blt d n&&(match Vc.wrFrom ops 0 d with
    |some j=>Nat.beq j i
    |none=>false)
   |none=>true)&&
  ((o.looksAt ops.toArray).all fun t=>match Vc.wrFrom ops 0 t with
   |some j=>memN j (B[i]?.getD [])
   |none=>true)
def zdh(E:Env)(ops:List Oper)(base:Nat)(st:St):Bool:=
 let B:=Vc.yl true ops;let fps:=ops.zipIdx.map fun(o,i)=>fpW E ops st (nidOf ops base i) o
 fps.zipIdx.all fun(a,i)=>(fps.take i).zipIdx.all fun(b,j)=>memN j (B[i]?.getD [])||zeh b a
def zmt{R:Type}(E:Env)(ops:List Oper)(st:St)(k:St→Option R):Option R:=
 match zl2 E.n ops with
 |true=>yF E true ops ops st.h.length ⟨st.s,wide st.h (zU ops)⟩ fun st'=>match zdh E ops st.h.length st' with
  |true=>k st'
  |false=>none
 |false=>none
def zhV(n m:Nat)(ops:List Oper):Bool:=
 let B:=Vc.yl true ops
 ops.zipIdx.all fun(o,i)=>
  ((Vc.edgesOf o).all fun e=>Nat.blt e i)&&
  (match o.dst with
   |some d=>Nat.blt d n&&(match Vc.wrFrom ops 0 d with
    |some j=>Nat.beq j i
    |none=>false)
   |none=>true)&&
  ((o.looksAt ops.toArray).all fun t=>match Vc.wrFrom ops 0 t with
   |some j=>memN j (B[i]?.getD [])||Nat.ble (ops.length-m) j
   |none=>true)
def zdU(m:Nat)(ops:List Oper):Bool:=
 let B:=Vc.yl true ops
 Nat.ble m ops.length&&(List.range m).all fun d=>match ops[ops.length-m+d]?,B[ops.length-m+d]? with
  |some o,some l=>(match o.guard with
   |none=>true
   |some _=>false)&&(List.range (ops.length-m+d)).all fun j=>memN j l
  |_,_=>false
def zdp{R:Type}(E:Env)(m:Nat)(ops:List Oper)(st:St)(k:St→Option R):Option R:=
 match zhV E.n m ops with
 |true=>yF E true ops (ops.take (ops.length-m)) st.h.length ⟨st.s,wide st.h (zU ops)⟩ fun st'=>match zdh E ops st.h.length st' with
  |true=>yF E false ops (ops.drop (ops.length-m)) (nidOf ops st.h.length (ops.length-m)) st' k
  |false=>none
 |false=>none
def znX{R:Type}(E:Env)(ops:List Oper)(st:St)(k:St→Option R):Option R:=match zdU 2 ops with
 |true=>zdp E 2 ops st k
 |false=>match zdU 1 ops with
  |true=>zdp E 1 ops st k
  |false=>zmt E ops st k
def zdo{R:Type}(i:Nat)(K:Cont R):Cont R:=⟨K.normal,fun j st=>match Nat.beq j i with
 |true=>K.normal st
 |false=>K.exits j st,K.ret⟩
def ev{R:Type}(E:Env)(cs:List (Cut R))(m:Nat):List Nat→Code→An→St→Cont R→Option R
 |_,.skip,_,st,K=>K.normal st
 |_,.label _,_,st,K=>K.normal st
 |_,.ret,_,st,K=>K.ret st
 |_,.exit i,_,st,K=>K.exits i st
 |_,.region _ ops draw,_,st,K=>match draw with
  |false=>zkE E ops.toList st K.normal
  |true=>znX E ops.toList st K.normal
 |fl,.seq a b,an,st,K=>match an with
  |.cut j lv la _=>ev E cs m fl a la st ⟨cutK cs m j lv fl 1,K.exits,K.ret⟩
  |an=>ev E cs m fl a an.l st ⟨fun st'=>ev E cs m fl b an.r st' K,K.exits,K.ret⟩
 |fl,.cond c a b,an,st,K=>match opnd E.gl st.s c with
  |.bool x=>cond x (ev E cs m fl a an.l st K) (ev E cs m fl b an.r st K)
  |_=>none
 |fl,.block i a,an,st,K=>ev E cs m fl a an.l st (zdo i K)
 |fl,.loop a,an,st,K=>match an with
  |.loop j lv _=>cutK cs m j lv fl E.N st
  |_=>zby (fun again st'=>ev E cs m fl a .nil st' ⟨again,K.exits,K.ret⟩) 64 st
 |_,_,_,_,_=>none
def jm{R:Type}(E:Env)(cs:List (Cut R))(m:Nat)(j n:Nat)(vs:List AV)(h:Heap):List Nat→List Nat→Code→An→Cont R→List (Option R)
 |fs,fl,.seq a b,an,K=>match an with
  |.cut j' lv la lb=>(match Nat.beq j' j,fs with
   |true,[]=>[ev E cs m fl b lb ⟨ziX lv vs,h⟩ K]
   |_,_=>[])++(jm E cs m j n vs h fs fl a la ⟨cutK cs m j' lv fl 1,K.exits,K.ret⟩++jm E cs m j n vs h fs fl b lb K)
  |an=>jm E cs m j n vs h fs fl a an.l ⟨fun st'=>ev E cs m fl b an.r st' K,K.exits,K.ret⟩++jm E cs m j n vs h fs fl b an.r K
 |fs,fl,.cond _ a b,an,K=>jm E cs m j n vs h fs fl a an.l K++jm E cs m j n vs h fs fl b an.r K
 |fs,fl,.block i a,an,K=>jm E cs m j n vs h fs fl a an.l (zdo i K)
 |fs,fl,.loop a,an,K=>match an with
  |.loop j' lv la=>(match Nat.beq j' j,fs with
   |true,[]=>[ev E cs m (n::fl) a la ⟨ziX lv vs,h⟩ ⟨cutK cs m j' lv fl n,K.exits,K.ret⟩]
   |_,_=>[])++(match fs with
   |[]=>[]
   |n'::fs'=>jm E cs m j n vs h fs' (n'::fl) a la ⟨cutK cs m j' lv fl n',K.exits,K.ret⟩)
  |_=>[]
 |_,_,_,_,_=>[]
def j4(j:Nat):Nat→Code→An→List Nat
 |d,.seq a b,an=>match an with
  |.cut j' _ la lb=>(match Nat.beq j' j with
   |true=>[d]
   |false=>[])++(j4 j d a la++j4 j d b lb)
  |an=>j4 j d a an.l++j4 j d b an.r
 |d,.cond _ a b,an=>j4 j d a an.l++j4 j d b an.r
 |d,.block _ a,an=>j4 j d a an.l
 |d,.loop a,an=>match an with
  |.loop j' _ la=>(match Nat.beq j' j with
   |true=>[d]
   |false=>[])++j4 j (d+1) a la
  |_=>[]
 |_,_,_=>[]
def zlT(P:Program)(st:St):List ResultVar→Option (List AV)
 |[]=>some []
 |.tmp t::r=>match zlT P st r with
  |some vs=>some (get st.s t::vs)
  |none=>none
 |.cell t T::r=>match zaq P st.h T (get st.s t),zlT P st r with
  |some (true,v),some vs=>some (v::vs)
  |_,_=>none
def sealP(m:Nat)(h:Heap)(v:AV):AV:=match v with
 |.ptr i 0=>match Nat.ble m i,hget h i with
  |true,some (.cells _ [u])=>match jF (idsV u),yD u with
   |true,true=>.rp u
   |_,_=>v
  |_,_=>v
 |v=>v
def sealQ(m:Nat)(h:Heap)(v:AV):List Nat:=match v with
 |.ptr i 0=>match Nat.ble m i,hget h i with
  |true,some (.cells _ [u])=>match jF (idsV u),yD u with
   |true,true=>[i]
   |_,_=>[]
  |_,_=>[]
 |_=>[]
def sealV(m:Nat)(h:Heap):AV→AV
 |.fn f first cap=>.fn f first (cap.map (sealP m h))
 |.rw i=>match Nat.ble m i,hget h i with
  |true,some (.bytes _ l)=>.rob false l
  |true,some (.ints _ k l)=>.roi false k l
  |true,some (.strs _ l)=>.ros false l
  |true,some (.vals _ z l)=>.rov false z l
  |_,_=>.rw i
 |v=>v
def sealI(m:Nat)(h:Heap):AV→List Nat
 |.fn _ _ cap=>cap.flatMap (sealQ m h)
 |.rw i=>match Nat.ble m i,hget h i with
  |true,some (.bytes _ _)|true,some (.ints _ _ _)|true,some (.strs _ _)|true,some (.vals _ _ _)=>[i]
  |_,_=>[]
 |_=>[]
def sealA(m:Nat)(h:Heap):AV→AV
 |.agg cs=>.agg (cs.map (sealV m h))
 |v=>sealV m h v
def sealJ(m:Nat)(h:Heap):AV→List Nat
 |.agg cs=>cs.flatMap (sealI m h)
 |v=>sealI m h v
def resV(vs:List AV):AV:=match vs with
 |[v]=>v
 |vs=>.tup vs
def yP:List Nat→Heap→Heap
 |[],h=>h
 |i::r,h=>yP r (h.set i none)
def fin(P:Program)(m:Nat)(results:List ResultVar)(st:St):Option Out:=
 match zlT P st results with
 |some vs=>
  let D:=vs.flatMap (sealJ m st.h);let v:=resV (vs.map (sealA m st.h));let h1:=yP D (scrub D st).h;let acc:=qI h1 1000 (idsV v++zkl (h1.take m)) (List.range m);let σ:=fun i=>Jm i acc 0
  match zbJ acc,(idsV v).any (fun i=>memN i D),j3 σ v,zgj σ h1 acc with
  |true,false,some v',some h'=>some ⟨v',h'⟩
  |_,_,_,_=>none
 |none=>none
def zr8{R:Type}(P:Program)(m:Nat)(results:List ResultVar)(dec:Out→Option R)(st:St):Option R:=
 match fin P m results st with
 |some o=>dec o
 |none=>none
def zpu:Nat→List AV→Slots
 |_,[]=>[]
 |i,v::r=>(i,v)::zpu (i+1) r
def zr9{R:Type}(P:Program)(m:Nat)(results:List ResultVar)(dec:Out→Option R):Cont R:=⟨zr8 P m results dec,fun _ _=>none,zr8 P m results dec⟩
def evF{R:Type}(E:Env)(cs:List (Cut R))(code:Code)(an:An)(results:List ResultVar)(dec:Out→Option R)(args:List AV)(h:Heap):Option R:=ev E cs h.length [] code an ⟨zpu 0 args,h⟩ (zr9 E.P h.length results dec)
def QO{R:Type}(E:Env)(cs:List (Cut R))(m:Nat)(code:Code)(an:An)(results:List ResultVar)(dec:Out→Option R)(j:Nat)(fs:List Nat)(n:Nat)(vs:List AV)(h:Heap):List (Option R):=jm E cs m j n vs h fs [] code an (zr9 E.P m results dec)
end Go.Am
