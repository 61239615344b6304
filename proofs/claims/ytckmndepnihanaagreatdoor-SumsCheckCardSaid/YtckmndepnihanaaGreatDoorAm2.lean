/-
  A part of the proof of the laws.
-/
import Derived.Test.YtckmndepnihanaaGreatDoorAm1
namespace Go.Am
open Go Go.RowKit Go.Vc
mutual
def idsV:AV→List Nat
 |.ptr i _=>[i]
 |.ep i _ _ _=>[i]
 |.rw i=>[i]
 |.rwp i=>[i]
 |.rwf i=>[i]
 |.rws i _ _ _=>[i]
 |.rwc i _ _ _=>[i]
 |.map i=>[i]
 |.fn _ first cap=>idsL first++idsL cap
 |.agg cs=>idsL cs
 |.tup vs=>idsL vs
 |.iface _ v=>idsV v
 |_=>[]
def idsL:List AV→List Nat
 |[]=>[]
 |v::r=>idsV v++idsL r
end
def idsO:AO→List Nat
 |.cells _ cs=>idsL cs
 |.gens _ _ _ _ cs=>idsL cs
 |_=>[]
mutual
def jC(σ:Nat→Option Nat):AV→Option AV
 |.ptr i o=>match σ i with
  |some j=>some (.ptr j o)
  |none=>none
 |.ep i z n o=>match σ i with
  |some j=>some (.ep j z n o)
  |none=>none
 |.rw i=>match σ i with
  |some j=>some (.rw j)
  |none=>none
 |.rwp i=>match σ i with
  |some j=>some (.rwp j)
  |none=>none
 |.rwf i=>match σ i with
  |some j=>some (.rwf j)
  |none=>none
 |.rws i z lo n=>match σ i with
  |some j=>some (.rws j z lo n)
  |none=>none
 |.rwc i z lo n=>match σ i with
  |some j=>some (.rwc j z lo n)
  |none=>none
 |.map i=>match σ i with
  |some j=>some (.map j)
  |none=>none
 |.fn f first cap=>match Yy σ first,Yy σ cap with
  |some a,some b=>some (.fn f a b)
  |_,_=>none
 |.agg cs=>match Yy σ cs with
  |some a=>some (.agg a)
  |none=>none
 |.tup vs=>match Yy σ vs with
  |some a=>some (.tup a)
  |none=>none
 |.iface t v=>match jC σ v with
  |some a=>some (.iface t a)
  |none=>none
 |.undef=>some .undef
 |.int k n=>some (.int k n)
 |.bool b=>some (.bool b)
 |.str l=>some (.str l)
 |.nilp=>some .nilp
 |.nilf=>some .nilf
 |.nili=>some .nili
 |.nilm=>some .nilm
 |.nils=>some .nils
 |.pos k=>some (.pos k)
 |.rp v=>some (.rp v)
 |.rob f l=>some (.rob f l)
 |.roi f k l=>some (.roi f k l)
 |.ros f l=>some (.ros f l)
 |.rov f z l=>some (.rov f z l)
 |.fns n fs=>some (.fns n fs)
def Yy(σ:Nat→Option Nat):List AV→Option (List AV)
 |[]=>some []
 |v::r=>match jC σ v,Yy σ r with
  |some a,some b=>some (a::b)
  |_,_=>none
end
def JS(σ:Nat→Option Nat):AO→Option AO
 |.cells T cs=>match Yy σ cs with
  |some a=>some (.cells T a)
  |none=>none
 |.gens T ag z n cs=>match Yy σ cs with
  |some a=>some (.gens T ag z n a)
  |none=>none
 |o=>some o
def memN(i:Nat):List Nat→Bool
 |[]=>false
 |j::r=>Nat.beq i j||memN i r
def jM(D:List Nat)(v:AV):AV:=match(idsV v).any (fun i=>memN i D)with
 |true=>.undef
 |false=>v
def jU(D:List Nat):Option AO→Option AO
 |some (.cells T cs)=>some (.cells T (cs.map (jM D)))
 |some (.gens T ag z n cs)=>some (.gens T ag z n (cs.map (jM D)))
 |o=>o
def scrub(D:List Nat)(st:St):St:=match D with
 |[]=>st
 |D=>⟨st.s.map fun(t,v)=>(t,jM D v),st.h.map (jU D)⟩
def reach(h:Heap):Nat→List Nat→List Nat→List Nat
 |0,_,acc=>acc
 |_+1,[],acc=>acc
 |n+1,i::r,acc=>match memN i acc with
  |true=>reach h n r acc
  |false=>match hget h i with
   |some o=>reach h n (r++idsO o) (acc++[i])
   |none=>reach h n r (acc++[i])
def qN(i:Nat):List Nat→Nat→Option Nat
 |[],_=>none
 |j::r,n=>match Nat.beq i j with
  |true=>some n
  |false=>qN i r (n+1)
def Yn(σ:Nat→Option Nat)(h:Heap):List Nat→Option Heap
 |[]=>some []
 |i::r=>match hget h i,Yn σ h r with
  |some o,some v=>match JS σ o with
   |some o'=>some (some o'::v)
   |none=>none
  |_,_=>none
def XH:List Nat→Bool
 |[]=>true
 |i::r=>!memN i r&&XH r
structure Out where
 v:AV
 h:Heap
structure Con where
 f:FuncId
 A:Type
 B:Type
 dec:List AV→Heap→Option A
 spec:A→Option B
 enc:A→B→Out
 go:(T:Type)→A→(B→Option T)→Option T
 hgo:∀(T:Type)(a:A)(k:B→Option T)(r:T),go T a k=some r→∃b,spec a=some b∧k b=some r∧∀(T':Type)(k':B→Option T'),go T' a k'=k' b
structure Con6 where
 f:FuncId
 A:Type
 B:Type
 dec:List AV→Heap→Option A
 spec:A→Option B
 enc:A→B→Out
def Con6.c(x:Con6):Con:=⟨x.f,x.A,x.B,x.dec,x.spec,x.enc,fun _ a k=>bnd (x.spec a) k,fun _ _ _ _ h=>by obtain⟨b,h1,h2⟩:=zjl h;exact⟨b,h1,h2,fun _ _=>by rw[h1];rfl⟩⟩
def Yv{R:Type}(args:List AV)(h:Heap)(k:Out→Option R)(f:FuncId):List Con→Option R
 |[]=>none
 |c::r=>match Nat.beq c.f f with
  |true=>match c.dec args h with
   |some a=>c.go R a fun b=>k (c.enc a b)
   |none=>Yv args h k f r
  |false=>Yv args h k f r
def Xl(acc:List Nat)(m nid:Nat)(j:Nat):Option Nat:=match Nat.blt j m with
 |true=>acc[j]?
 |false=>some (nid+(j-m))
def zfW(σ:Nat→Option Nat):Heap→Option Heap
 |[]=>some []
 |none::r=>match zfW σ r with
  |some v=>some (none::v)
  |none=>none
 |some o::r=>match JS σ o,zfW σ r with
  |some o',some v=>some (some o'::v)
  |_,_=>none
def jq(h:Heap):List Nat→Heap→Heap
 |i::r,o::s=>jq (h.set i o) r s
 |_,_=>h
def Js:List Nat→Heap→List Nat
 |i::r,none::s=>i::Js r s
 |_::r,some _::s=>Js r s
 |_,_=>[]
def newIds(nid:Nat)(n:Nat):List Nat:=(List.range n).map (nid+ ·)
def QuietC(C:Con):Prop:=∀args h x r,C.dec args h=some x→C.spec x=some r→(C.enc x r).h=h
structure Env where
 P:Program
 gl:Glob
 Γ:List Con
 N:Nat
 n:Nat
 Q:List FuncId
 hQ:∀f,memN f Q=true→∀C∈Γ,C.f=f→QuietC C
def jL:Nat:=4
def yD{R:Type}(E:Env)(strict:Bool)(nid:Nat)(f:FuncId)(args:List AV)(st:St)(k:AV→St→Option R):Option R:=
 let acc:=reach st.h 1000 (idsL args) [];let σ:=fun i=>qN i acc 0
 match XH acc,Yy σ args,Yn σ st.h acc with
 |true,some args',some hv=>Yv args' hv (fun out=>
  let m:=acc.length;let τ:=Xl acc m nid
  match Nat.ble m out.h.length,Nat.ble out.h.length (m+jL),jC τ out.v,zfW τ out.h with
  |true,true,some v,some ho=>
   let ids:=acc++newIds nid (out.h.length-m)
   match Js ids ho with
   |[]=>k v ⟨st.s,jq st.h ids ho⟩
   |D=>match strict with
    |true=>none
    |false=>match scrub D ⟨st.s,st.h⟩with
     |⟨s',h'⟩=>k v ⟨s',jq h' ids ho⟩
  |_,_,_,_=>none) f E.Γ
 |_,_,_=>none
def Z1{R:Type}(E:Env)(strict:Bool)(nid:Nat)(n:Int)(args:List AV)(st:St)(k:AV→St→Option R):Nat→List FuncId→Option R
 |_,[]=>none
 |i,f::r=>cond (decide (n=(i:Int))) (yD E strict nid f args st k) (Z1 E strict nid n args st k (i+1) r)
def toByte(n:Int):UInt8:=UInt8.ofNat n.toNat
def Yl(k:IntKind):List AV→Option (Bool×List Int)
 |[]=>some (true,[])
 |.int k' n::r=>match kEq k k',Yl k r with
  |true,some (c,l)=>some (inKb k n&&c,n::l)
  |_,_=>none
 |_=>none
def Q6:List AV→Option (List (List UInt8))
 |[]=>some []
 |.str l::r=>match Q6 r with
  |some s=>some (l::s)
  |none=>none
 |_=>none
def Yc(n:Nat):Nat→List AV→List AV
 |0,_=>[]
 |m+1,cs=>.agg (cs.take n)::Yc n m (cs.drop n)
def zrd(P:Program)(elem:TypeId)(len:Nat)(cs:List AV):Option (Bool×AO):=
 match P.underlying elem,zx P elem with
 |some (.int .u8),some 1=>match Yl .u8 cs,Nat.beq cs.length len with
  |some (c,l),true=>some (c,.bytes elem (l.map toByte))
  |_,_=>none
 |some (.int k),some 1=>match Yl k cs,Nat.beq cs.length len with
  |some (c,l),true=>some (c,.ints elem k l)
  |_,_=>none
 |some .string,some 1=>match Q6 cs,Nat.beq cs.length len with
  |some l,true=>some (true,.strs elem l)
  |_,_=>none
 |some (.struct _),some n=>match(idsL cs).isEmpty,cs.all zJ,Nat.beq cs.length (len*n)with
  |true,true,true=>some (true,.vals elem n (Yc n len cs))
  |_,true,true=>some (true,.gens elem true n len cs)
  |_,_,_=>none
 |some (.func _ _ _),some 1=>match(idsL cs).isEmpty,cs.all zJ,Nat.beq cs.length len with
  |true,true,true=>some (true,.vals elem 1 cs)
  |_,_,_=>none
 |some .bool,some 1=>match(idsL cs).isEmpty,cs.all zJ,Nat.beq cs.length len with
  |true,true,true=>some (true,.vals elem 1 cs)
  |_,_,_=>none
 |some (.map _ _),some 1|some (.slice _),some 1|some (.pointer _),some 1=>match(idsL cs).isEmpty,cs.all zJ,Nat.beq cs.length len with
  |true,true,true=>some (true,.vals elem 1 cs)
  |_,true,true=>some (true,.gens elem false 1 len cs)
  |_,_,_=>none
 |some (.array _ _),some n=>match(idsL cs).isEmpty,cs.all zJ,Nat.beq cs.length (len*n)with
  |true,true,true=>some (true,.vals elem n (Yc n len cs))
  |_,true,true=>some (true,.gens elem true n len cs)
  |_,_,_=>none
 |_,_=>none
def zhK(P:Program)(t:TypeId)(len:Nat)(parts:List (Nat×AV)):Option (Bool×AO):=
 match P.underlying t with
 |some (.slice elem)=>match zx P elem,zeu P elem with
  |some n,some z=>match Nat.ble (len*n) 16777216,Nat.beq z.length n,zds (fun i=>some (i*n,n)) (zvj len z) parts with
   |true,true,some cs=>zrd P elem len cs
   |_,_,_=>none
  |_,_=>none
 |_=>none
def zgT(P:Program)(t:TypeId)(z:Nat)(l:List AV)(n:Int)(off:Nat):Option (Bool×AV):=match zeW P false t (cellOf (atV l n) off),Nat.blt off z,zx P t with
 |some (c,v),true,some 1=>some (inIx n l.length&&(qQ (atV l n) z&&c),v)
 |_,_,_=>match atV l n with
  |.agg cs=>match YT P t cs off with
   |some v=>some (inIx n l.length,v)
   |none=>none
  |_=>none
def Vt(P:Program)(h:Heap)(t:TypeId)(a:AV):Option (Bool×AV):=
 match a with
 |.ptr i o=>match hget h i with
  |some (.cells _ cs)=>match YT P t cs o with
   |some v=>some (true,v)
   |none=>none
  |_=>none
 |.ep i z n 0=>match hget h i,P.underlying t,zx P t,Nat.beq z 1 with
  |some (.bytes _ l),some (.int .u8),some 1,true=>some (inIx n l.length,.int .u8 (byteAt l n))
  |some (.ints _ k l),some (.int k'),some 1,true=>match kEq k k' with
   |true=>some (inIx n l.length,.int k (atI l n))
   |false=>none
  |some (.strs _ l),some .string,some 1,true=>some (inIx n l.length,.str (atS l n))
  |some (.vals _ z' l),some _,some q,_=>match Nat.beq z z',Nat.beq z q,zcC P false t (atV l n)with
   |true,true,some (c,v)=>some (inIx n l.length&&c,v)
   |true,_,_=>zgT P t z l n 0
   |_,_,_=>none
  |some (.gens _ _ z' m cs),_,_,_=>match Nat.beq z z',YT P t ((cs.drop (n.toNat*z)).take z) 0 with
   |true,some v=>some (inIx n m,v)
   |_,_=>none
  |_,_,_,_=>none
 |.ep i z n (off+1)=>match hget h i with
  |some (.vals _ z' l)=>match Nat.beq z z' with
   |true=>zgT P t z l n (off+1)
   |false=>none
  |some (.gens _ _ z' m cs)=>match Nat.beq z z',YT P t ((cs.drop (n.toNat*z)).take z) (off+1)with
   |true,some v=>some (inIx n m,v)
   |_,_=>none
  |_=>none
 |.rp v=>match v,zw P t,zx P t with
  |.agg cs,some true,some n=>match Nat.beq cs.length n,Nat.ble 1 n with
   |true,true=>some (true,.agg cs)
   |_,_=>none
  |.agg _,_,_=>none
  |v,some false,some 1=>some (true,v)
  |_,_,_=>none
 |_=>none
def YE(T:TypeId)(ag:Bool)(z z' m:Nat)(n:Int)(off k:Nat)(cs:List AV)(x:AV)(i:Nat):Option (Bool×Nat×AO):=
 match Nat.beq z z',Nat.beq (cellsA x).length k,Nat.ble (off+k) z,(cellsA x).all zJ with
 |true,true,true,true=>some (inIx n m,i,.gens T ag z m (setL cs (n.toNat*z+off) (cellsA x)))
 |_,_,_,_=>none
theorem Xy:∀{cs:List AV},cs.all zfH=true→idsL cs=[]∧cs.all zJ=true
 |[],_=>⟨rfl,rfl⟩
 |v::r,h=>by simp only[List.all_cons,Bool.and_eq_true]at h;obtain⟨h1,h2⟩:=Xy h.2;cases v<;>simp_all[zfH,idsL,idsV,zJ]
def zcB(T:TypeId)(z z':Nat)(l:List AV)(n:Int)(k:Nat)(x:AV)(i:Nat):Option (Bool×Nat×AO):=match x with
 |.agg cs=>match Nat.beq z z',Nat.beq k z,Nat.beq cs.length z,cs.all zfH with
  |true,true,true,true=>some (inIx n l.length,i,.vals T z (l.set n.toNat (.agg cs)))
  |_,_,_,_=>none
 |_=>none
def Z3(P:Program)(h:Heap)(t:TypeId)(a x:AV):Option (Bool×Nat×AO):=
 match a with
 |.ptr i o=>match hget h i,zx P t with
  |some (.cells T cs),some n=>match Nat.beq (cellsA x).length n,Nat.ble (o+n) cs.length,(cellsA x).all zJ with
   |true,true,true=>some (true,i,.cells T (setL cs o (cellsA x)))
   |_,_,_=>none
  |_,_=>none
 |.ep i z n 0=>match hget h i,x,zx P t,Nat.beq z 1 with
  |some (.bytes T l),.int .u8 c,some 1,true=>some (inIx n l.length&&inKb .u8 c,i,.bytes T (l.set n.toNat (toByte c)))
  |some (.ints T k l),.int k' c,some 1,true=>match kEq k k' with
   |true=>some (inIx n l.length,i,.ints T k (l.set n.toNat c))
   |false=>none
  |some (.strs T l),.str c,some 1,true=>some (inIx n l.length,i,.strs T (l.set n.toNat c))
  |some (.vals T z' l),x,some k,_=>match zcB T z z' l n k x i with
   |some q=>some q
   |none=>YE T (z !=1) z z' l.length n 0 k (zan l) x i
  |some (.gens T ag z' m cs),x,some k,_=>YE T ag z z' m n 0 k cs x i
  |_,_,_,_=>none
 |.ep i z n (off+1)=>match hget h i,zx P t with
  |some (.vals T z' l),some k=>YE T (z !=1) z z' l.length n (off+1) k (zan l) x i
  |some (.gens T ag z' m cs),some k=>YE T ag z z' m n (off+1) k cs x i
  |_,_=>none
 |_=>none
def rsv(o:Oper):Nat:=match o.op with
 |.alloc _|.box _ _|.buildSlice _ _ _|.convert _ _ _|.range _ _|.makeSlice _ _ _|.makeMap _ _=>1
 |.call {callee:=.value _,..}=>jL
 |.call {callee:=.builtin .append,..}=>1
 |_=>0
def opK{R:Type}(E:Env)(strict:Bool)(nid:Nat)(op:Op)(st:St)(k:AV→St→Option R):Option R:=
 let ev:=opnd E.gl st.s
 match op with
 |.pick c a b=>match ev c with
  |.bool x=>cond x (k (ev a) st) (k (ev b) st)
  |_=>none
 |.alloc T=>match zeu E.P T with
  |some cs=>k (.ptr nid 0) ⟨st.s,st.h.set nid (some (.cells T cs))⟩
  |none=>none
 |.box T x=>match(cellsA (ev x)).all zJ with
  |true=>k (.ptr nid 0) ⟨st.s,st.h.set nid (some (.cells T (cellsA (ev x))))⟩
  |false=>none
 |.buildSlice t len parts=>match zhK E.P t len (Xb ev parts.toList)with
  |some (c,o)=>chk c (k (.rw nid) ⟨st.s,st.h.set nid (some o)⟩)
  |none=>none
 |.load t a=>match Vt E.P st.h t (ev a)with
  |some (c,v)=>chk c (k v st)
  |none=>none
 |.store t a x=>match Z3 E.P st.h t (ev a) (ev x)with
  |some (c,i,o)=>chk c (k .undef ⟨st.s,st.h.set i (some o)⟩)
  |none=>none
 |.call {callee:=.value f,args,..}=>match ev f with
  |.fn g first cap=>yD E strict nid g (first++args.toList.map ev++cap) st k
  |.fns n fs=>Z1 E strict nid n (args.toList.map ev) st k 0 fs
  |_=>none
 |.call {callee:=.builtin .append,args,argTypes}=>match strict,argTypes.toList,args.toList with
  |false,[t,tx],[s,x]=>match ziS E.P st.h t tx (ev s) (un (ev x))with
   |some (b,c,o)=>cond b (chk c (k (.rw nid) ⟨st.s,st.h.set nid (some o)⟩)) (k (ev s) st)
   |none=>match ziU E.P st.h t tx (un (ev s)) (un (ev x))with
    |some (c,some j,o)=>chk (!memN j (idsO o)&&c) (k (zqC (ev s) nid) ⟨(scrub [j] st).s,((scrub [j] st).h.set j none).set nid (some o)⟩)
    |some (c,none,o)=>chk c (k (.rw nid) ⟨st.s,st.h.set nid (some o)⟩)
    |none=>none
  |_,_,_=>none
 |.call {callee:=.builtin .copy,args,argTypes}=>match argTypes.toList,args.toList with
  |t::_::[],[d,x]=>match zau E.P st.h t (un (ev d)) (un (ev x))with
   |some (q,i,o)=>k (.int .i64 (q:Int)) ⟨st.s,st.h.set i (some o)⟩
   |none=>none
  |_,_=>none
 |.range t x=>match strict,E.P.underlying t,ev x with
  |false,some .string,.str l=>k (.ptr nid 0) ⟨st.s,st.h.set nid (some (.iter l 0))⟩
  |_,_,_=>none
 |.next x true=>match strict,ev x with
  |false,.ptr i 0=>match hget st.h i with
   |some (.iter l pos)=>cond (Nat.blt pos l.length)
    (k (.tup [.bool true,.int .i64 (pos:Int),.int .i32 (XB l pos)]) ⟨st.s,st.h.set i (some (.iter l (pos+widthAt l pos)))⟩)
    (k (.tup [.bool false]) st)
   |_=>none
  |_,_=>none
 |.makeMap t r=>match r,QS E.P t,r.map ev with
  |none,_,_=>k (.map nid) ⟨st.s,st.h.set nid (some (.mp []))⟩
  |some _,some _,some (.int _ _)=>k (.map nid) ⟨st.s,st.h.set nid (some (.mp []))⟩
  |_,_,_=>none
 |.lookup t x ix ok=>match QS E.P t,qO st.h (ev x)with
  |some (kt,et),some (_,l)=>match zal E.P kt (ev ix),znW E.P et with
   |true,some z=>ZX (ev ix) (fun r=>match r with
    |some (_,v)=>k (okV ok v true) st
    |none=>k (okV ok z false) st) l 0
   |_,_=>none
  |_,_=>none
 |.mapUpdate t m x y=>match QS E.P t,qO st.h (ev m)with
  |some (kt,_),some (i,l)=>match zal E.P kt (ev x),idsV (ev y)with
   |true,[]=>ZX (ev x) (fun r=>k .undef ⟨st.s,st.h.set i (some (.mp (mapPut l (ev x) (ev y) r)))⟩) l 0
   |_,_=>none
  |_,_=>none
 |.insert t m x y=>match QS E.P t,qO st.h (ev m)with
  |some (kt,_),some (i,l)=>match zal E.P kt (ev x),idsV (ev y)with
   |true,[]=>ZX (ev x) (fun r=>k .undef ⟨st.s,st.h.set i (some (.mp (mapPut l (ev x) (ev y) r)))⟩) l 0
   |_,_=>none
  |_,_=>none
 |op=>match yl E.P st.h ev op with
  |some (c,.val v)=>chk c (k v st)
  |some (c,.row o)=>chk c (k (newV E.gl op nid) ⟨st.s,st.h.set nid (some o)⟩)
  |none=>match ya E.P st.h ev op with
   |some (c,v)=>chk c (k v st)
   |none=>none
def Yt(all:List Oper)(g:Nat):Option Nat:=match all[g]? with
 |some o=>o.dst
 |none=>none
def VM(n:Nat):Option Nat→Bool
 |none=>true
 |some d=>Nat.blt d n
def yc{R:Type}(E:Env)(strict:Bool)(all:List Oper):List Oper→Nat→St→(St→Option R)→Option R
 |[],_,st,k=>k st
 |o::r,nid,st,k=>match VM E.n o.dst with
  |false=>none
  |true=>
   let go:=fun(st:St)=>opK E strict nid o.op st fun v st'=>yc E strict all r (nid+rsv o) ⟨putO o.dst v st'.s,st'.h⟩ k
   match o.guard with
   |none=>go st
   |some (g,want)=>
    let no:=fun(st:St)=>yc E strict all r (nid+rsv o) ⟨putO o.dst (.tup []) st.s,st.h⟩ k
    match Yt all g with
    |some t=>match Nat.blt t E.n,get st.s t with
     |true,.bool b=>cond b (cond want (go ⟨put t (.bool true) st.s,st.h⟩) (no ⟨put t (.bool true) st.s,st.h⟩))
      (cond want (no ⟨put t (.bool false) st.s,st.h⟩) (go ⟨put t (.bool false) st.s,st.h⟩))
     |true,.tup []=>no st
     |_,_=>none
    |none=>none
def rsvAll:List Oper→Nat
 |[]=>0
 |o::r=>rsv o+rsvAll r
def wide(h:Heap):Nat→Heap
 |0=>h
 |n+1=>wide (h++[none]) n
inductive An where
 |nil
 |seq (a b:An)
 |one (a:An)
 |two (a b:An)
 |cut (j:Nat) (lv:List Nat) (a b:An)
 |loop (j:Nat) (lv:List Nat) (a:An)
def An.l:An→An
 |.seq a _=>a
 |.one a=>a
 |.two a _=>a
 |.cut _ _ a _=>a
 |.loop _ _ a=>a
 |.nil=>.nil
def An.r:An→An
 |.seq _ b=>b
 |.two _ b=>b
 |.cut _ _ _ b=>b
 |_=>.nil
def zcx(σ:Nat→Option Nat)(h:Heap):List Nat→Option Heap
 |[]=>some []
 |i::r=>match h[i]?,zcx σ h r with
  |some (some o),some v=>match JS σ o with
   |some o'=>some (some o'::v)
   |none=>none
  |some none,some v=>some (none::v)
  |_,_=>none
def zdm:Heap→List Nat
 |[]=>[]
 |some o::r=>idsO o++zdm r
 |none::r=>zdm r
def zvo(m:Nat)(lv:List Nat)(st:St):Option (List AV×Heap):=
 let vs:=lv.map (get st.s);let acc:=reach st.h 1000 (idsL vs++zdm (st.h.take m)) (List.range m);let σ:=fun i=>qN i acc 0
 match XH acc,Yy σ vs,zcx σ st.h acc with
 |true,some vs',some h'=>some (vs',h')
 |_,_,_=>none
def zfp:List Nat→List AV→Slots
 |t::r,v::vs=>(t,v)::zfp r vs
 |_,_=>[]
structure Cont(R:Type) where
 normal:St→Option R
 exits:Nat→St→Option R
 ret:St→Option R
structure Cut(R:Type) where
 X:Type
 dec:List AV→Heap→Option X
 run:List Nat→Nat→X→Option R
def ZI{R:Type}(fl:List Nat)(vs:List AV)(h:Heap)(n:Nat):List (Cut R)→Nat→Option R
 |[],_=>none
 |c::_,0=>match c.dec vs h with
  |some x=>c.run fl n x
  |none=>none
 |_::r,j+1=>ZI fl vs h n r j
def zeo{R:Type}(cs:List (Cut R))(m j:Nat)(lv:List Nat)(fl:List Nat)(n:Nat)(st:St):Option R:=match zvo m lv st with
 |some (vs,h)=>ZI fl vs h n cs j
 |none=>none
def qX{R:Type}(F:(St→Option R)→St→Option R):Nat→St→Option R
 |0,_=>none
 |n+1,st=>F (qX F n) st
def zdt{R:Type}(E:Env)(ops:List Oper)(st:St)(k:St→Option R):Option R:=yc E false ops ops st.h.length ⟨st.s,wide st.h (rsvAll ops)⟩ k
def zR{α:Type}:List α→Bool
 |[]=>true
 |_=>false
def nidOf(ops:List Oper)(base i:Nat):Nat:=base+rsvAll (ops.take i)
structure Fp where
 r:List Nat
 w:List Nat
 big:Bool
def fpO(Q:List FuncId)(ev:Operand→AV)(nid:Nat)(op:Op):Fp:=match op with
 |.load _ a=>⟨idsV (ev a),[],false⟩
 |.store _ a _=>⟨idsV (ev a),idsV (ev a),false⟩
 |.alloc _|.box _ _|.buildSlice _ _ _|.makeSlice _ _ _|.makeMap _ _=>⟨[],[nid],false⟩
 |.lookup _ x _ _=>⟨idsV (ev x),[],false⟩
 |.mapUpdate _ m _ _|.insert _ m _ _=>⟨idsV (ev m),idsV (ev m),false⟩
 |.indexAddr _ x _|.slice _ x _ _ _=>⟨idsV (ev x),[],false⟩
 |.convert _ _ x=>⟨idsV (ev x),[nid],false⟩
 |.binOp _ _ x y _=>match un (ev x),un (ev y)with
  |.rw i,.nils=>⟨[i],[],false⟩
  |_,_=>⟨[],[],false⟩
 |.call {callee:=.value f,args,..}=>match ev f with
  |.fn g first cap=>match idsL (first++args.toList.map ev++cap),memN g Q with
   |[],_=>⟨[],newIds nid jL,false⟩
   |_,true=>⟨[0],[],true⟩
   |_,false=>⟨[],[],true⟩
  |.fns _ _=>match idsL (args.toList.map ev)with
   |[]=>⟨[],newIds nid jL,false⟩
   |_=>⟨[],[],true⟩
  |_=>⟨[],[],true⟩
 |.call {callee:=.builtin .copy,args,..}=>⟨idsL (args.toList.map ev),idsL (args.toList.map ev),false⟩
 |.call {callee:=.builtin _,args,..}=>⟨idsL (args.toList.map ev),[],false⟩
 |_=>⟨[],[],false⟩
def zu(all:List Oper)(o:Oper)(st:St):Option Bool:=match o.guard with
 |none=>some true
 |some (g,want)=>match Yt all g with
  |some t=>match get st.s t with
   |.bool b=>some (b==want)
   |.tup []=>some false
   |_=>none
  |none=>none
def fpW(E:Env)(all:List Oper)(st:St)(nid:Nat)(o:Oper):Fp:=match zu all o st with
 |some false=>⟨[],[],false⟩
 |_=>fpO E.Q (opnd E.gl st.s) nid o.op
def zvH(a b:List Nat):Bool:=a.all fun i=>!memN i b
def YW(a b:Fp):Bool:=match a.big,b.big with
 |false,false=>zvH a.w b.r&&zvH a.w b.w&&zvH b.w a.r
 |true,false=>(zR b.w&&(zR b.r||(!zR a.r&&zR a.w)))||(zR b.r&&(!zR a.r&&zR a.w))
 |false,true=>zR a.w&&(zR a.r||(!zR b.r&&zR b.w))
 |true,true=>(!zR a.r&&zR a.w)&&(!zR b.r&&zR b.w)
def zgV(n:Nat)(ops:List Oper):Bool:=
 let B:=Vc.beforeOf true ops
 ops.zipIdx.all fun(o,i)=>
  ((Vc.edgesOf o).all fun e=>Nat.blt e i)&&
  (match o.dst with
   |some d=>Nat.blt d n&&(match Vc.wrFrom ops 0 d with
    |some j=>Nat.beq j i
    |none=>false)
   |none=>true)&&
  ((o.looksAt ops.toArray).all fun t=>match Vc.wrFrom ops 0 t with
   |some j=>memN j (B[i]?.getD [])
   |none=>true)
def za0(E:Env)(ops:List Oper)(base:Nat)(st:St):Bool:=
 let B:=Vc.beforeOf true ops;let fps:=ops.zipIdx.map fun(o,i)=>fpW E ops st (nidOf ops base i) o
 fps.zipIdx.all fun(a,i)=>(fps.take i).zipIdx.all fun(b,j)=>memN j (B[i]?.getD [])||YW b a
def zkK{R:Type}(E:Env)(ops:List Oper)(st:St)(alt:Option R)(k:St→Option R):Option R:=
 match zgV E.n ops with
 |true=>yc E true ops ops st.h.length ⟨st.s,wide st.h (rsvAll ops)⟩ fun st'=>match za0 E ops st.h.length st' with
  |true=>k st'
  |false=>alt
 |false=>alt
mutual
def zcE:AV→AV→Bool
 |.undef,.undef=>true
 |.int k n,.int k' n'=>kEq k k'&&decide (n=n')
 |.bool b,.bool b'=>b==b'
 |.str l,.str l'=>decide (l=l')
 |.nilp,.nilp=>true
 |.nilf,.nilf=>true
 |.nili,.nili=>true
 |.nilm,.nilm=>true
 |.nils,.nils=>true
 |.ptr i o,.ptr i' o'=>Nat.beq i i'&&Nat.beq o o'
 |.rp v,.rp v'=>zcE v v'
 |.rw i,.rw i'=>Nat.beq i i'
 |.rwp i,.rwp i'=>Nat.beq i i'
 |.rwf i,.rwf i'=>Nat.beq i i'
 |.ep i z a b,.ep i' z' a' b'=>(Nat.beq i i'&&Nat.beq z z')&&(decide (a=a')&&Nat.beq b b')
 |.rws i z a b,.rws i' z' a' b'=>(Nat.beq i i'&&Nat.beq z z')&&(decide (a=a')&&decide (b=b'))
 |.iface t v,.iface t' v'=>Nat.beq t t'&&zcE v v'
 |.pos k,.pos k'=>kEq k k'
 |.fns n l,.fns n' l'=>decide (n=n')&&decide (l=l')
 |.rwc i z a b,.rwc i' z' a' b'=>(Nat.beq i i'&&Nat.beq z z')&&(decide (a=a')&&decide (b=b'))
 |.rob f l,.rob f' l'=>(f==f')&&decide (l=l')
 |.roi f k l,.roi f' k' l'=>(f==f')&&kEq k k'&&decide (l=l')
 |.ros f l,.ros f' l'=>(f==f')&&decide (l=l')
 |.rov f z l,.rov f' z' l'=>(f==f')&&Nat.beq z z'&&qi l l'
 |.fn f a c,.fn f' a' c'=>Nat.beq f f'&&qi a a'&&qi c c'
 |.agg l,.agg l'=>qi l l'
 |.tup l,.tup l'=>qi l l'
 |.map i,.map i'=>Nat.beq i i'
 |_,_=>false
def qi:List AV→List AV→Bool
 |[],[]=>true
 |a::r,b::s=>zcE a b&&qi r s
 |_,_=>false
end
def isAnch:Op→Bool
 |.store _ _ _|.alloc _|.box _ _|.buildSlice _ _ _|.makeSlice _ _ _|.makeMap _ _|.mapUpdate _ _ _ _|.insert _ _ _ _|.convert _ _ _|.range _ _|.next _ _=>true
 |.call {callee:=.builtin .append,..}=>true
 |.call {callee:=.builtin .copy,..}=>true
 |.call {callee:=.value _,..}=>true
 |_=>false
def Wb:Op→Bool
 |.call {callee:=.builtin .append,..}=>false
 |.call {callee:=.value _,..}=>false
 |_=>true
def zhe(f:Fp):Bool:=zR f.w&&(!f.big||!zR f.r)
def zi3(d:Option Nat)(v:AV)(st:St):Bool:=match d with
 |none=>true
 |some d=>zcE v (get st.s d)
def znx{R:Type}(E:Env)(all:List Oper)(base:Nat):List (Oper×Nat)→St→(St→Option R)→Option R
 |[],st,k=>k st
 |(o,j)::r,st,k=>match zu all o st with
  |some true=>opK E true (nidOf all base j) o.op st fun v _=>znx E all base r ⟨putO o.dst v st.s,st.h⟩ k
  |some false=>znx E all base r ⟨putO o.dst (.tup []) st.s,st.h⟩ k
  |none=>none
def zk2{R:Type}(E:Env)(all:List Oper)(base:Nat):List (Oper×Nat)→St→Option R→Option R
 |[],_,k=>k
 |(o,j)::r,st,k=>match zhe (fpW E all st (nidOf all base j) o)with
  |false=>none
  |true=>match zu all o st with
   |some true=>opK E true (nidOf all base j) o.op st fun v _=>cond (zi3 o.dst v st) (zk2 E all base r st k) none
   |some false=>cond (zi3 o.dst (.tup []) st) (zk2 E all base r st k) none
   |none=>none
def znz{R:Type}(E:Env)(all:List Oper)(base:Nat)(o:Oper)(i:Nat)(st:St)(K:St→Option R):Option R:=match zu all o st with
 |some true=>opK E (Wb o.op) (nidOf all base i) o.op st fun v st'=>K ⟨putO o.dst v st'.s,st'.h⟩
 |some false=>K ⟨putO o.dst (.tup []) st.s,st.h⟩
 |none=>none
def zjF(B:List (List Nat))(az:List (Oper×Nat))(j:Nat):Bool:=az.all fun a=>!memN a.2 (B[j]?.getD [])
def zvp(B:List (List Nat))(pa:Option Nat)(j:Nat):Bool:=match pa with
 |none=>true
 |some p=>memN p (B[j]?.getD [])
def zwi(B:List (List Nat))(pa:Option Nat)(j:Nat):Bool:=match pa with
 |none=>true
 |some p=>!memN j (B[p]?.getD [])
def zfG{R:Type}(E:Env)(all:List Oper)(base:Nat)(B:List (List Nat))(fs az:List (Oper×Nat))(pa:Option Nat)(st:St)(K:St→Option R):Option R:=znx E all base (fs.filter fun f=>zjF B az f.2&&zvp B pa f.2) st fun st=>zk2 E all base (fs.filter fun f=>zjF B az f.2&&zwi B pa f.2) st (K st)
def evG{R:Type}(E:Env)(all:List Oper)(base:Nat)(B:List (List Nat))(fs:List (Oper×Nat)):List (Oper×Nat)→Option Nat→St→(St→Option R)→Option R
 |[],pa,st,K=>zfG E all base B fs [] pa st K
 |(o,i)::r,pa,st,K=>zfG E all base B fs ((o,i)::r) pa st fun st=>znz E all base o i st fun st=>evG E all base B fs r (some i) st K
def zhF(B:List (List Nat)):List (Oper×Nat)→Bool
 |[]=>true
 |a::l=>(l.all fun b=>memN a.2 (B[b.2]?.getD []))&&zhF B l
def zaZ(n:Nat)(ops:List Oper)(B:List (List Nat)):Bool:=
 (ops.zipIdx.all fun(o,i)=>
  ((Vc.edgesOf o).all fun e=>Nat.blt e i)&&
  (match o.dst with
   |some d=>Nat.blt d n&&(match Vc.wrFrom ops 0 d with
    |some j=>Nat.beq j i
    |none=>false)
   |none=>true)&&
  ((o.looksAt ops.toArray).all fun t=>match Vc.wrFrom ops 0 t with
   |some j=>memN j (B[i]?.getD [])||((match ops[j]? with
    |some oj=>isAnch oj.op
    |none=>false)&&(Nat.beq j i||memN i (B[j]?.getD [])))
   |none=>true))&&
 zhF B (ops.zipIdx.filter fun x=>isAnch x.1.op)
def ZY{R:Type}(E:Env)(ops:List Oper)(st:St)(k:St→Option R):Option R:=
 let B:=Vc.beforeOf true ops
 match zaZ E.n ops B with
 |true=>evG E ops st.h.length B (ops.zipIdx.filter fun x=>!isAnch x.1.op) (ops.zipIdx.filter fun x=>isAnch x.1.op) none ⟨st.s,wide st.h (rsvAll ops)⟩ k
 |false=>none
def zhm(m:Nat)(ops:List Oper):Bool:=(ops.take (ops.length-m)).any fun o=>(match o.guard with
 |none=>true
 |some _=>false)&&(match o.op with
 |.call {callee:=.builtin .append,..}=>true
 |_=>false)
def Kh(n m:Nat)(ops:List Oper):Bool:=
 let B:=Vc.beforeOf true ops
 ops.zipIdx.all fun(o,i)=>
  ((Vc.edgesOf o).all fun e=>Nat.blt e i)&&
  (match o.dst with
   |some d=>Nat.blt d n&&(match Vc.wrFrom ops 0 d with
    |some j=>Nat.beq j i
    |none=>false)
   |none=>true)&&
  ((o.looksAt ops.toArray).all fun t=>match Vc.wrFrom ops 0 t with
   |some j=>memN j (B[i]?.getD [])||Nat.ble (ops.length-m) j
   |none=>true)
def Xw(m:Nat)(ops:List Oper):Bool:=
 let B:=Vc.beforeOf true ops
 Nat.ble m ops.length&&(List.range m).all fun d=>match ops[ops.length-m+d]?,B[ops.length-m+d]? with
  |some o,some l=>(match o.guard with
   |none=>true
   |some _=>false)&&(List.range (ops.length-m+d)).all fun j=>memN j l
  |_,_=>false
def Yf{R:Type}(E:Env)(m:Nat)(ops:List Oper)(st:St)(alt:Option R)(k:St→Option R):Option R:=
 match Kh E.n m ops with
 |true=>yc E true ops (ops.take (ops.length-m)) st.h.length ⟨st.s,wide st.h (rsvAll ops)⟩ fun st'=>match za0 E ops st.h.length st' with
  |true=>yc E false ops (ops.drop (ops.length-m)) (nidOf ops st.h.length (ops.length-m)) st' k
  |false=>alt
 |false=>alt
def zhp(L:Nat)(ops:List Oper)(o:Oper):Bool:=match o.op,o.guard,o.dst with
 |.move (.tmp t),none,some _=>match Vc.wrFrom ops 0 t with
  |some j=>Nat.blt j L
  |none=>true
 |_,_,_=>false
def qb:Op→Bool
 |.call {callee:=.builtin .append,..}=>true
 |_=>false
def zh8(L:Nat)(ops:List Oper):Bool:=
 let B:=Vc.beforeOf true ops
 (match ops[L]?,B[L]? with
  |some o,some l=>qb o.op&&((match o.guard with
   |none=>true
   |some _=>false)&&(List.range L).all fun j=>memN j l||(match ops[j]? with
    |some oj=>zhp L ops oj
    |none=>false))
  |_,_=>false)&&
 (List.range (ops.length-(L+1))).all fun d=>match ops[L+1+d]?,B[L+1+d]? with
  |some o,some l=>(match o.guard with
   |none=>true
   |some _=>false)&&(List.range (L+1+d)).all fun j=>memN j l
  |_,_=>false
def zcp:List Oper→Nat→Nat→Nat
 |[],_,r=>r
 |o::l,i,r=>zcp l (i+1) (cond (qb o.op) i r)
def VJ{R:Type}(E:Env)(ops:List Oper)(st:St)(k:St→Option R):Option R:=match zh8 (zcp ops 0 ops.length) ops with
 |true=>Yf E (ops.length-zcp ops 0 ops.length) ops st (ZY E ops st k) k
 |false=>match Xw 2 ops&&!zhm 2 ops with
  |true=>Yf E 2 ops st (ZY E ops st k) k
  |false=>match Xw 1 ops&&!zhm 1 ops with
   |true=>Yf E 1 ops st (ZY E ops st k) k
   |false=>match zhm 0 ops with
    |true=>ZY E ops st k
    |false=>zkK E ops st (ZY E ops st k) k
def sealP(m:Nat)(h:Heap)(v:AV):AV:=match v with
 |.ptr i 0=>match Nat.ble m i,hget h i with
  |true,some (.cells _ [u])=>match zR (idsV u),zJ u with
   |true,true=>.rp u
   |_,_=>v
  |_,_=>v
 |v=>v
def sealQ(m:Nat)(h:Heap)(v:AV):List Nat:=match v with
 |.ptr i 0=>match Nat.ble m i,hget h i with
  |true,some (.cells _ [u])=>match zR (idsV u),zJ u with
   |true,true=>[i]
   |_,_=>[]
  |_,_=>[]
 |_=>[]
def ZE(ag:Bool)(z:Nat)(cs:List AV):Bool:=zR (idsL cs)&&(ag||(Nat.beq z 1&&cs.all zJ))
def X3(ag:Bool)(z n:Nat)(cs:List AV):List AV:=cond ag (Yc z n cs) cs
def sealV(m:Nat)(h:Heap):AV→AV
 |.fn f first cap=>.fn f first (cap.map (sealP m h))
 |.ptr i 0=>match Nat.ble m i,hget h i with
  |true,some (.cells _ cs)=>match Nat.ble 2 cs.length&&cs.all QW with
   |true=>.rp (.agg cs)
   |false=>.ptr i 0
  |_,_=>.ptr i 0
 |.rw i=>match Nat.ble m i,hget h i with
  |true,some (.bytes _ l)=>.rob false l
  |true,some (.ints _ k l)=>.roi false k l
  |true,some (.strs _ l)=>.ros false l
  |true,some (.vals _ z l)=>.rov false z l
  |true,some (.gens _ ag z n cs)=>match ZE ag z cs with
   |true=>.rov false z (X3 ag z n cs)
   |false=>.rw i
  |_,_=>.rw i
 |.rwf i=>match Nat.ble m i,hget h i with
  |true,some (.bytes _ l)=>.rob true l
  |true,some (.ints _ k l)=>.roi true k l
  |true,some (.strs _ l)=>.ros true l
  |true,some (.vals _ z l)=>.rov true z l
  |true,some (.gens _ ag z n cs)=>match ZE ag z cs with
   |true=>.rov true z (X3 ag z n cs)
   |false=>.rwf i
  |_,_=>.rwf i
 |.rwc i z c n=>match Nat.ble m i,hget h i with
  |true,some (.bytes _ l)=>match Nat.beq z 1 with
   |true=>.rob true (subL l c (c+n))
   |false=>.rwc i z c n
  |true,some (.ints _ k l)=>match Nat.beq z 1 with
   |true=>.roi true k (subL l c (c+n))
   |false=>.rwc i z c n
  |true,some (.strs _ l)=>match Nat.beq z 1 with
   |true=>.ros true (subL l c (c+n))
   |false=>.rwc i z c n
  |true,some (.vals _ z' l)=>match Nat.beq z z' with
   |true=>.rov true z (subL l c (c+n))
   |false=>.rwc i z c n
  |true,some (.gens _ ag z' _ cs)=>match ZE ag z cs&&Nat.beq z z' with
   |true=>.rov true z (X3 ag z n.toNat ((cs.drop (c.toNat*z)).take (n.toNat*z)))
   |false=>.rwc i z c n
  |_,_=>.rwc i z c n
 |v=>v
def sealI(m:Nat)(h:Heap):AV→List Nat
 |.fn _ _ cap=>cap.flatMap (sealQ m h)
 |.ptr i 0=>match Nat.ble m i,hget h i with
  |true,some (.cells _ cs)=>match Nat.ble 2 cs.length&&cs.all QW with
   |true=>[i]
   |false=>[]
  |_,_=>[]
 |.rw i=>match Nat.ble m i,hget h i with
  |true,some (.bytes _ _)|true,some (.ints _ _ _)|true,some (.strs _ _)|true,some (.vals _ _ _)=>[i]
  |true,some (.gens _ ag z _ cs)=>match ZE ag z cs with
   |true=>[i]
   |false=>[]
  |_,_=>[]
 |.rwf i=>match Nat.ble m i,hget h i with
  |true,some (.bytes _ _)|true,some (.ints _ _ _)|true,some (.strs _ _)|true,some (.vals _ _ _)=>[i]
  |true,some (.gens _ ag z _ cs)=>match ZE ag z cs with
   |true=>[i]
   |false=>[]
  |_,_=>[]
 |.rwc i z _ _=>match Nat.ble m i,hget h i with
  |true,some (.bytes _ _)=>match Nat.beq z 1 with
   |true=>[i]
   |false=>[]
  |true,some (.ints _ _ _)=>match Nat.beq z 1 with
   |true=>[i]
   |false=>[]
  |true,some (.strs _ _)=>match Nat.beq z 1 with
   |true=>[i]
   |false=>[]
  |true,some (.vals _ z' _)=>match Nat.beq z z' with
   |true=>[i]
   |false=>[]
  |true,some (.gens _ ag z' _ cs)=>match ZE ag z cs&&Nat.beq z z' with
   |true=>[i]
   |false=>[]
  |_,_=>[]
 |_=>[]
def sealA(m:Nat)(h:Heap):AV→AV
 |.agg cs=>.agg (cs.map (sealV m h))
 |v=>sealV m h v
def sealJ(m:Nat)(h:Heap):AV→List Nat
 |.agg cs=>cs.flatMap (sealI m h)
 |v=>sealI m h v
def jW:List Nat→Heap→Heap
 |[],h=>h
 |i::r,h=>jW r (h.set i none)
def zv6:Glob→Option (List FuncId)
 |[]=>none
 |(_,v)::r=>match v with
  |.fns _ fs=>some fs
  |_=>zv6 r
def znl(g:AV→AV):Slots→Slots
 |[]=>[]
 |(t,v)::r=>(t,g v)::znl g r
def zlt(m:Nat)(h:Heap)(D:List Nat)(v:AV):AV:=match idsV v with
 |[]=>v
 |_=>match(sealJ m h v).all (fun i=>memN i D)&&(idsV (sealA m h v)).all (fun i=>!memN i D)with
  |true=>sealA m h v
  |false=>jM D v
def sealSt(m:Nat)(D:List Nat)(st:St):St:=⟨znl (zlt m st.h D) st.s,jW D (scrub D st).h⟩
def zpk(m:Nat)(h:Heap)(v:AV):List Nat:=match v with
 |.ptr _ 0=>sealI m h v
 |_=>[]
def zjL:Glob→Bool
 |[]=>false
 |(_,v)::r=>match v with
  |.fns n _=>match decide (n=4)with
   |true=>true
   |false=>zjL r
  |_=>zjL r
def QF(E:Env)(m:Nat)(fs:List FuncId)(op:Op)(st:St):List Nat:=match op with
 |.buildSlice _ _ parts=>(Xb (opnd E.gl st.s) parts.toList).flatMap fun p=>sealJ m st.h p.2
 |.call {callee:=.value f,args,..}=>match opnd E.gl st.s f with
  |.fn g _ _=>match memN g fs with
   |true=>args.toList.flatMap fun x=>sealJ m st.h (opnd E.gl st.s x)
   |false=>[]
  |_=>[]
 |.slice _ x _ _ _=>match zjL E.gl with
  |true=>sealJ m st.h (opnd E.gl st.s x)
  |false=>zpk m st.h (opnd E.gl st.s x)
 |_=>[]
def zv2(v:AV):AV:=match v with
 |.nils=>.rob false []
 |v=>v
def weakO(o:Option AO):Option AO:=match o with
 |some (.cells T cs)=>some (.cells T (cs.map zv2))
 |o=>o
def yf:Nat→Heap→Heap
 |_,[]=>[]
 |0,o::r=>weakO o::yf 0 r
 |m+1,o::r=>o::yf m r
def zv1:Glob→Bool
 |[]=>false
 |(_,v)::r=>match v with
  |.fns n _=>decide (n=1)
  |_=>zv1 r
def zfK:Glob→List Nat
 |[]=>[]
 |(_,v)::r=>match v with
  |.fns n fs=>match decide (n=2)with
   |true=>fs
   |false=>zfK r
  |_=>zfK r
def weakS:List Nat→Slots→Slots
 |[],s=>s
 |t::r,s=>weakS r (match get s t with
  |.nils=>put t (.rob false []) s
  |_=>s)
def weakOp0(E:Env)(m:Nat)(fs:List FuncId)(op:Op)(st:St):St:=match op with
 |.call {callee:=.value f,..}=>match opnd E.gl st.s f with
  |.fn g _ _=>match memN g fs&&zv1 E.gl with
   |true=>⟨st.s,yf m st.h⟩
   |false=>st
  |_=>st
 |_=>st
def weakOp(E:Env)(m:Nat)(fs:List FuncId)(op:Op)(st:St):St:=weakOp0 E m fs op ⟨weakS (zfK E.gl) st.s,st.h⟩
def sealOp(E:Env)(m:Nat)(fs:List FuncId)(op:Op)(st:St):St:=weakOp E m fs op (match QF E m fs op st with
 |[]=>st
 |D=>sealSt m D st)
def Qd{R:Type}(E:Env)(m:Nat)(fs:List FuncId)(all:List Oper):List Oper→Nat→St→(St→Option R)→Option R
 |[],_,st,k=>k st
 |o::r,nid,st,k=>match VM E.n o.dst with
  |false=>none
  |true=>
   let go:=fun(st:St)=>opK E false nid o.op (sealOp E m fs o.op st) fun v st'=>Qd E m fs all r (nid+rsv o) ⟨putO o.dst v st'.s,st'.h⟩ k
   match o.guard with
   |none=>go st
   |some (g,want)=>
    let no:=fun(st:St)=>Qd E m fs all r (nid+rsv o) ⟨putO o.dst (.tup []) st.s,st.h⟩ k
    match Yt all g with
    |some t=>match Nat.blt t E.n,get st.s t with
     |true,.bool b=>cond b (cond want (go ⟨put t (.bool true) st.s,st.h⟩) (no ⟨put t (.bool true) st.s,st.h⟩))
      (cond want (no ⟨put t (.bool false) st.s,st.h⟩) (go ⟨put t (.bool false) st.s,st.h⟩))
     |true,.tup []=>no st
     |_,_=>none
    |none=>none
def WM{R:Type}(E:Env)(m:Nat)(ops:List Oper)(st:St)(k:St→Option R):Option R:=match zv6 E.gl with
 |none=>zdt E ops st k
 |some fs=>Qd E m fs ops ops st.h.length ⟨st.s,wide st.h (rsvAll ops)⟩ k
def J9{R:Type}(i:Nat)(K:Cont R):Cont R:=⟨K.normal,fun j st=>match Nat.beq j i with
 |true=>K.normal st
 |false=>K.exits j st,K.ret⟩
def ev{R:Type}(E:Env)(cs:List (Cut R))(m:Nat):List Nat→Code→An→St→Cont R→Option R
 |_,.skip,_,st,K=>K.normal st
 |_,.label _,_,st,K=>K.normal st
 |_,.ret,_,st,K=>K.ret st
 |_,.exit i,_,st,K=>K.exits i st
 |_,.region _ ops draw,_,st,K=>match draw with
  |false=>WM E m ops.toList st K.normal
  |true=>VJ E ops.toList st K.normal
 |fl,.seq a b,an,st,K=>match an with
  |.cut j lv la _=>ev E cs m fl a la st ⟨zeo cs m j lv fl 1,K.exits,K.ret⟩
  |an=>ev E cs m fl a an.l st ⟨fun st'=>ev E cs m fl b an.r st' K,K.exits,K.ret⟩
 |fl,.cond c a b,an,st,K=>match opnd E.gl st.s c with
  |.bool x=>cond x (ev E cs m fl a an.l st K) (ev E cs m fl b an.r st K)
  |_=>none
 |fl,.block i a,an,st,K=>ev E cs m fl a an.l st (J9 i K)
 |fl,.loop a,an,st,K=>match an with
  |.loop j lv _=>zeo cs m j lv fl E.N st
  |_=>qX (fun again st'=>ev E cs m fl a .nil st' ⟨again,K.exits,K.ret⟩) 64 st
 |_,_,_,_,_=>none
def jp{R:Type}(E:Env)(cs:List (Cut R))(m:Nat)(j n:Nat)(vs:List AV)(h:Heap):List Nat→List Nat→Code→An→Cont R→List (Option R)
 |fs,fl,.seq a b,an,K=>match an with
  |.cut j' lv la lb=>(match Nat.beq j' j,fs with
   |true,[]=>[ev E cs m fl b lb ⟨zfp lv vs,h⟩ K]
   |_,_=>[])++(jp E cs m j n vs h fs fl a la ⟨zeo cs m j' lv fl 1,K.exits,K.ret⟩++jp E cs m j n vs h fs fl b lb K)
  |an=>jp E cs m j n vs h fs fl a an.l ⟨fun st'=>ev E cs m fl b an.r st' K,K.exits,K.ret⟩++jp E cs m j n vs h fs fl b an.r K
 |fs,fl,.cond _ a b,an,K=>jp E cs m j n vs h fs fl a an.l K++jp E cs m j n vs h fs fl b an.r K
 |fs,fl,.block i a,an,K=>jp E cs m j n vs h fs fl a an.l (J9 i K)
 |fs,fl,.loop a,an,K=>match an with
  |.loop j' lv la=>(match Nat.beq j' j,fs with
   |true,[]=>[ev E cs m (n::fl) a la ⟨zfp lv vs,h⟩ ⟨zeo cs m j' lv fl n,K.exits,K.ret⟩]
   |_,_=>[])++(match fs with
   |[]=>[]
   |n'::fs'=>jp E cs m j n vs h fs' (n'::fl) a la ⟨zeo cs m j' lv fl n',K.exits,K.ret⟩)
  |_=>[]
 |_,_,_,_,_=>[]
def jS(j:Nat):Nat→Code→An→List Nat
 |d,.seq a b,an=>match an with
  |.cut j' _ la lb=>(match Nat.beq j' j with
   |true=>[d]
   |false=>[])++(jS j d a la++jS j d b lb)
  |an=>jS j d a an.l++jS j d b an.r
 |d,.cond _ a b,an=>jS j d a an.l++jS j d b an.r
 |d,.block _ a,an=>jS j d a an.l
 |d,.loop a,an=>match an with
  |.loop j' _ la=>(match Nat.beq j' j with
   |true=>[d]
   |false=>[])++jS j (d+1) a la
  |_=>[]
 |_,_,_=>[]
def zim(P:Program)(st:St):List ResultVar→Option (List AV)
 |[]=>some []
 |.tmp t::r=>match zim P st r with
  |some vs=>some (get st.s t::vs)
  |none=>none
 |.cell t T::r=>match Vt P st.h T (get st.s t),zim P st r with
  |some (true,v),some vs=>some (v::vs)
  |_,_=>none
def resV(vs:List AV):AV:=match vs with
 |[v]=>v
 |vs=>.tup vs
def fin(P:Program)(m:Nat)(results:List ResultVar)(st:St):Option Out:=
 match zim P st results with
 |some vs=>
  let D:=vs.flatMap (sealJ m st.h);let v:=resV (vs.map (sealA m st.h));let h1:=jW D (scrub D st).h;let acc:=reach h1 1000 (idsV v++zdm (h1.take m)) (List.range m);let σ:=fun i=>qN i acc 0
  match XH acc,(idsV v).any (fun i=>memN i D),jC σ v,zcx σ h1 acc with
  |true,false,some v',some h'=>some ⟨v',h'⟩
  |_,_,_,_=>none
 |none=>none
def zvC(P:Program)(m:Nat)(results:List ResultVar)(st:St):Option Out:=
 match zim P st results with
 |some vs=>
  let v:=resV vs;let acc:=reach st.h 1000 (idsV v++zdm (st.h.take m)) (List.range m);let σ:=fun i=>qN i acc 0
  match XH acc,jC σ v,zcx σ st.h acc with
  |true,some v',some h'=>some ⟨v',h'⟩
  |_,_,_=>none
 |none=>none
def zxB{R:Type}(P:Program)(m:Nat)(results:List ResultVar)(dec:Out→Option R)(st:St):Option R:=
 match zvC P m results st with
 |some o=>dec o
 |none=>none
def zvh{R:Type}(P:Program)(m:Nat)(results:List ResultVar)(dec:Out→Option R)(st:St):Option R:=
 match fin P m results st with
 |some o=>match dec o with
  |some r=>some r
  |none=>zxB P m results dec st
 |none=>none
def zjs:Nat→List AV→Slots
 |_,[]=>[]
 |i,v::r=>(i,v)::zjs (i+1) r
def zvi{R:Type}(P:Program)(m:Nat)(results:List ResultVar)(dec:Out→Option R):Cont R:=⟨zvh P m results dec,fun _ _=>none,zvh P m results dec⟩
def evF{R:Type}(E:Env)(cs:List (Cut R))(code:Code)(an:An)(results:List ResultVar)(dec:Out→Option R)(args:List AV)(h:Heap):Option R:=ev E cs h.length [] code an ⟨zjs 0 args,h⟩ (zvi E.P h.length results dec)
def q8{R:Type}(E:Env)(cs:List (Cut R))(m:Nat)(code:Code)(an:An)(results:List ResultVar)(dec:Out→Option R)(j:Nat)(fs:List Nat)(n:Nat)(vs:List AV)(h:Heap):List (Option R):=jp E cs m j n vs h fs [] code an (zvi E.P m results dec)
end Go.Am
