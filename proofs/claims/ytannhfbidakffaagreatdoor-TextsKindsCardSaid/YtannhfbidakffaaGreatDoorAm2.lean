/-
  A part of the proof of the laws.
-/
import Derived.Test.YtannhfbidakffaaGreatDoorAm1
namespace Go.Am
open Go Go.RowKit Go.Vc
mutual
def idsV:AV->List Nat
 |.ptr i _=>[i]
 |.ep i _ _ _=>[i]
 |.rw i=>[i]
 |.rwp i=>[i]
 |.rwf i=>[i]
 |.rws i _ _ _=>[i]
 |.rwc i _ _ _=>[i]
 |.map i=>[i]
 |.fn _ first cap=>idsL first++idsL cap
 |.agg cs=>idsL cs
 |.tup vs=>idsL vs
 |.iface _ v=>idsV v
 |_=>[]
def idsL:List AV->List Nat
 |[]=>[]
 |v::r=>idsV v++idsL r
end
def idsO:AO->List Nat
 |.cells _ cs=>idsL cs
 |.gens _ _ _ _ cs=>idsL cs
 |_=>[]
mutual
def jX(σ:Nat->Option Nat):AV->Option AV
 |.ptr i o=>match σ i with
  |some j=>some (.ptr j o)
  |none=>none
 |.ep i z n o=>match σ i with
  |some j=>some (.ep j z n o)
  |none=>none
 |.rw i=>match σ i with
  |some j=>some (.rw j)
  |none=>none
 |.rwp i=>match σ i with
  |some j=>some (.rwp j)
  |none=>none
 |.rwf i=>match σ i with
  |some j=>some (.rwf j)
  |none=>none
 |.rws i z B n=>match σ i with
  |some j=>some (.rws j z B n)
  |none=>none
 |.rwc i z B n=>match σ i with
  |some j=>some (.rwc j z B n)
  |none=>none
 |.map i=>match σ i with
  |some j=>some (.map j)
  |none=>none
 |.fn f first cap=>match KW σ first,KW σ cap with
  |some a,some b=>some (.fn f a b)
  |_,_=>none
 |.agg cs=>match KW σ cs with
  |some a=>some (.agg a)
  |none=>none
 |.tup vs=>match KW σ vs with
  |some a=>some (.tup a)
  |none=>none
 |.iface t v=>match jX σ v with
  |some a=>some (.iface t a)
  |none=>none
 |.undef=>some .undef
 |.int k n=>some (.int k n)
 |.bool b=>some (.bool b)
 |.str l=>some (.str l)
 |.nilp=>some .nilp
 |.nilf=>some .nilf
 |.nili=>some .nili
 |.nilm=>some .nilm
 |.nils=>some .nils
 |.pos k=>some (.pos k)
 |.rp v=>some (.rp v)
 |.rob f l=>some (.rob f l)
 |.roi f k l=>some (.roi f k l)
 |.ros f l=>some (.ros f l)
 |.rov f z l=>some (.rov f z l)
 |.fns n fs=>some (.fns n fs)
def KW(σ:Nat->Option Nat):List AV->Option (List AV)
 |[]=>some []
 |v::r=>match jX σ v,KW σ r with
  |some a,some b=>some (a::b)
  |_,_=>none
end
def XT(σ:Nat->Option Nat):AO->Option AO
 |.cells T cs=>match KW σ cs with
  |some a=>some (.cells T a)
  |none=>none
 |.gens T j z n cs=>match KW σ cs with
  |some a=>some (.gens T j z n a)
  |none=>none
 |o=>some o
def memN(i:Nat):List Nat->Bool
 |[]=>false
 |j::r=>Nat.beq i j||memN i r
def ya(D:List Nat)(v:AV):AV:=match(idsV v).any (fun i=>memN i D)with
 |true=>.undef
 |false=>v
def yk(D:List Nat):Option AO->Option AO
 |some (.cells T cs)=>some (.cells T (cs.map (ya D)))
 |some (.gens T j z n cs)=>some (.gens T j z n (cs.map (ya D)))
 |o=>o
def scrub(D:List Nat)(st:St):St:=match D with
 |[]=>st
 |D=>⟨st.s.map fun(t,v)=>(t,ya D v),st.h.map (yk D)⟩
def reach(h:Heap):Nat->List Nat->List Nat->List Nat
 |0,_,acc=>acc
 |_+1,[],acc=>acc
 |n+1,i::r,acc=>match memN i acc with
  |true=>reach h n r acc
  |false=>match hget h i with
   |some o=>reach h n (r++idsO o) (acc++[i])
   |none=>reach h n r (acc++[i])
def Ja(i:Nat):List Nat->Nat->Option Nat
 |[],_=>none
 |j::r,n=>match Nat.beq i j with
  |true=>some n
  |false=>Ja i r (n+1)
def KF(σ:Nat->Option Nat)(h:Heap):List Nat->Option Heap
 |[]=>some []
 |i::r=>match hget h i,KF σ h r with
  |some o,some v=>match XT σ o with
   |some o'=>some (some o'::v)
   |none=>none
  |_,_=>none
def zbk:List Nat->Bool
 |[]=>true
 |i::r=>!memN i r&&zbk r
structure Out where
 v:AV
 h:Heap
structure Con where
 f:FuncId
 A:Type
 B:Type
 dec:List AV->Heap->Option A
 spec:A->Option B
 enc:A->B->Out
 go:(T:Type)->A->(B->Option T)->Option T
 hgo:∀(T:Type)(a:A)(k:B->Option T)(r:T),go T a k=some r->∃b,spec a=some b/\k b=some r/\∀(T':Type)(k':B->Option T'),go T' a k'=k' b
structure Con6 where
 f:FuncId
 A:Type
 B:Type
 dec:List AV->Heap->Option A
 spec:A->Option B
 enc:A->B->Out
def Con6.c(x:Con6):Con:=⟨x.f,x.A,x.B,x.dec,x.spec,x.enc,fun _ a k=>bnd (x.spec a) k,fun _ _ _ _ h=>by obtain⟨b,j,H⟩:=zc8 h;exact⟨b,j,H,fun _ _=>by rw[j];rfl⟩⟩
def KT{R:Type}(j:List AV)(h:Heap)(k:Out->Option R)(f:FuncId):List Con->Option R
 |[]=>none
 |c::r=>match Nat.beq c.f f with
  |true=>match c.dec j h with
   |some a=>c.go R a fun b=>k (c.enc a b)
   |none=>KT j h k f r
  |false=>KT j h k f r
def zaV(acc:List Nat)(m nid:Nat)(j:Nat):Option Nat:=match Nat.blt j m with
 |true=>acc[j]?
 |false=>some (nid+(j-m))
def zls(σ:Nat->Option Nat):Heap->Option Heap
 |[]=>some []
 |none::r=>match zls σ r with
  |some v=>some (none::v)
  |none=>none
 |some o::r=>match XT σ o,zls σ r with
  |some o',some v=>some (some o'::v)
  |_,_=>none
def jI(h:Heap):List Nat->Heap->Heap
 |i::r,o::s=>jI (h.set i o) r s
 |_,_=>h
def Q8:List Nat->Heap->List Nat
 |i::r,none::s=>i::Q8 r s
 |_::r,some _::s=>Q8 r s
 |_,_=>[]
def newIds(nid:Nat)(n:Nat):List Nat:=(List.range n).map (nid+ ·)
def QuietC(C:Con):Prop:=∀j h x r,C.dec j h=some x->C.spec x=some r->(C.enc x r).h=h
structure Env where
 P:Program
 gl:Glob
 Γ:List Con
 N:Nat
 n:Nat
 Q:List FuncId
 hQ:∀f,memN f Q=true->∀C∈Γ,C.f=f->QuietC C
def j8:Nat:=4
def yv{R:Type}(E:Env)(j:Bool)(nid:Nat)(f:FuncId)(B:List AV)(st:St)(k:AV->St->Option R):Option R:=
 let acc:=reach st.h 1000 (idsL B) [];let σ:=fun i=>Ja i acc 0
 match zbk acc,KW σ B,KF σ st.h acc with
 |true,some H,some hv=>KT H hv (fun out=>
  let m:=acc.length;let τ:=zaV acc m nid
  match Nat.ble m out.h.length,Nat.ble out.h.length (m+j8),jX τ out.v,zls τ out.h with
  |true,true,some v,some ho=>
   let ids:=acc++newIds nid (out.h.length-m)
   match Q8 ids ho with
   |[]=>k v ⟨st.s,jI st.h ids ho⟩
   |D=>match j with
    |true=>none
    |false=>match scrub D ⟨st.s,st.h⟩with
     |⟨I,h'⟩=>k v ⟨I,jI h' ids ho⟩
  |_,_,_,_=>none) f E.Γ
 |_,_,_=>none
def Qg{R:Type}(E:Env)(j:Bool)(nid:Nat)(n:Int)(B:List AV)(st:St)(k:AV->St->Option R):Nat->List FuncId->Option R
 |_,[]=>none
 |i,f::r=>cond (decide (n=(i:Int))) (yv E j nid f B st k) (Qg E j nid n B st k (i+1) r)
def toByte(n:Int):UInt8:=UInt8.ofNat n.toNat
def KB(k:IntKind):List AV->Option (Bool×List Int)
 |[]=>some (true,[])
 |.int j n::r=>match kEq k j,KB k r with
  |true,some (c,l)=>some (inKb k n&&c,n::l)
  |_,_=>none
 |_=>none
def zah:List AV->Option (List uAU)
 |[]=>some []
 |.str l::r=>match zah r with
  |some s=>some (l::s)
  |none=>none
 |_=>none
def Kh(n:Nat):Nat->List AV->List AV
 |0,_=>[]
 |m+1,cs=>.agg (cs.take n)::Kh n m (cs.drop n)
def zxS(P:Program)(elem:TypeId)(len:Nat)(cs:List AV):Option (Bool×AO):=
 match P.underlying elem,zK P elem with
 |some (.int .u8),some 1=>match KB .u8 cs,Nat.beq cs.length len with
  |some (c,l),true=>some (c,.bytes elem (l.map toByte))
  |_,_=>none
 |some (.int k),some 1=>match KB k cs,Nat.beq cs.length len with
  |some (c,l),true=>some (c,.ints elem k l)
  |_,_=>none
 |some .string,some 1=>match zah cs,Nat.beq cs.length len with
  |some l,true=>some (true,.strs elem l)
  |_,_=>none
 |some (.struct _),some n=>match(idsL cs).isEmpty,cs.all jb,Nat.beq cs.length (len*n)with
  |true,true,true=>some (true,.vals elem n (Kh n len cs))
  |_,true,true=>some (true,.gens elem true n len cs)
  |_,_,_=>none
 |some (.func _ _ _),some 1=>match(idsL cs).isEmpty,cs.all jb,Nat.beq cs.length len with
  |true,true,true=>some (true,.vals elem 1 cs)
  |_,_,_=>none
 |some .bool,some 1=>match(idsL cs).isEmpty,cs.all jb,Nat.beq cs.length len with
  |true,true,true=>some (true,.vals elem 1 cs)
  |_,_,_=>none
 |some (.map _ _),some 1|some (.slice _),some 1|some (.pointer _),some 1=>match(idsL cs).isEmpty,cs.all jb,Nat.beq cs.length len with
  |true,true,true=>some (true,.vals elem 1 cs)
  |_,true,true=>some (true,.gens elem false 1 len cs)
  |_,_,_=>none
 |some (.array _ _),some n=>match(idsL cs).isEmpty,cs.all jb,Nat.beq cs.length (len*n)with
  |true,true,true=>some (true,.vals elem n (Kh n len cs))
  |_,true,true=>some (true,.gens elem true n len cs)
  |_,_,_=>none
 |_,_=>none
def znd(P:Program)(t:TypeId)(len:Nat)(j:List (Nat×AV)):Option (Bool×AO):=
 match P.underlying t with
 |some (.slice elem)=>match zK P elem,zjE P elem with
  |some n,some z=>match Nat.ble (len*n) 16777216,Nat.beq z.length n,zii (fun i=>some (i*n,n)) (zBq len z) j with
   |true,true,some cs=>zxS P elem len cs
   |_,_,_=>none
  |_,_=>none
 |_=>none
def zlP(P:Program)(t:TypeId)(z:Nat)(l:List AV)(n:Int)(off:Nat):Option (Bool×AV):=match zkj P false t (ziB (atV l n) off),Nat.blt off z,zK P t with
 |some (c,v),true,some 1=>some (inIx n l.length&&(zx0 (atV l n) z&&c),v)
 |_,_,_=>match atV l n with
  |.agg cs=>match Vm P t cs off with
   |some v=>some (inIx n l.length,v)
   |none=>none
  |_=>none
def zcu(P:Program)(h:Heap)(t:TypeId)(a:AV):Option (Bool×AV):=
 match a with
 |.ptr i o=>match hget h i with
  |some (.cells _ cs)=>match Vm P t cs o with
   |some v=>some (true,v)
   |none=>none
  |_=>none
 |.ep i z n 0=>match hget h i,P.underlying t,zK P t,Nat.beq z 1 with
  |some (.bytes _ l),some (.int .u8),some 1,true=>some (inIx n l.length,.int .u8 (byteAt l n))
  |some (.ints _ k l),some (.int B),some 1,true=>match kEq k B with
   |true=>some (inIx n l.length,.int k (atI l n))
   |false=>none
  |some (.strs _ l),some .string,some 1,true=>some (inIx n l.length,.str (atS l n))
  |some (.vals _ j l),some _,some q,_=>match Nat.beq z j,Nat.beq z q,zhd P false t (atV l n)with
   |true,true,some (c,v)=>some (inIx n l.length&&c,v)
   |true,_,_=>zlP P t z l n 0
   |_,_,_=>none
  |some (.gens _ _ j m cs),_,_,_=>match Nat.beq z j,Vm P t ((cs.drop (n.toNat*z)).take z) 0 with
   |true,some v=>some (inIx n m,v)
   |_,_=>none
  |_,_,_,_=>none
 |.ep i z n (off+1)=>match hget h i with
  |some (.vals _ j l)=>match Nat.beq z j with
   |true=>zlP P t z l n (off+1)
   |false=>none
  |some (.gens _ _ j m cs)=>match Nat.beq z j,Vm P t ((cs.drop (n.toNat*z)).take z) (off+1)with
   |true,some v=>some (inIx n m,v)
   |_,_=>none
  |_=>none
 |.rp v=>match v,zB P t,zK P t with
  |.agg cs,some true,some n=>match Nat.beq cs.length n,Nat.ble 1 n with
   |true,true=>some (true,.agg cs)
   |_,_=>none
  |.agg _,_,_=>none
  |v,some false,some 1=>some (true,v)
  |_,_,_=>none
 |_=>none
def K6(T:TypeId)(j:Bool)(z B m:Nat)(n:Int)(off k:Nat)(cs:List AV)(x:AV)(i:Nat):Option (Bool×Nat×AO):=
 match Nat.beq z B,Nat.beq (cellsA x).length k,Nat.ble (off+k) z,(cellsA x).all jb with
 |true,true,true,true=>some (inIx n m,i,.gens T j z m (setL cs (n.toNat*z+off) (cellsA x)))
 |_,_,_,_=>none
def Qo(P:Program)(h:Heap)(t:TypeId)(a x:AV):Option (Bool×Nat×AO):=
 match a with
 |.ptr i o=>match hget h i,zK P t with
  |some (.cells T cs),some n=>match Nat.beq (cellsA x).length n,Nat.ble (o+n) cs.length,(cellsA x).all jb with
   |true,true,true=>some (true,i,.cells T (setL cs o (cellsA x)))
   |_,_,_=>none
  |_,_=>none
 |.ep i z n 0=>match hget h i,x,zK P t,Nat.beq z 1 with
  |some (.bytes T l),.int .u8 c,some 1,true=>some (inIx n l.length&&inKb .u8 c,i,.bytes T (l.set n.toNat (toByte c)))
  |some (.ints T k l),.int H c,some 1,true=>match kEq k H with
   |true=>some (inIx n l.length,i,.ints T k (l.set n.toNat c))
   |false=>none
  |some (.strs T l),.str c,some 1,true=>some (inIx n l.length,i,.strs T (l.set n.toNat c))
  |some (.vals T j l),x,some k,_=>K6 T (z !=1) z j l.length n 0 k (zeN l) x i
  |some (.gens T B j m cs),x,some k,_=>K6 T B z j m n 0 k cs x i
  |_,_,_,_=>none
 |.ep i z n (off+1)=>match hget h i,zK P t with
  |some (.vals T j l),some k=>K6 T (z !=1) z j l.length n (off+1) k (zeN l) x i
  |some (.gens T B j m cs),some k=>K6 T B z j m n (off+1) k cs x i
  |_,_=>none
 |_=>none
def rsv(o:Oper):Nat:=match o.op with
 |.alloc _|.box _ _|.buildSlice _ _ _|.convert _ _ _|.range _ _|.makeSlice _ _ _|.makeMap _ _=>1
 |.call {callee:=.value _,..}=>j8
 |.call {callee:=.builtin .append,..}=>1
 |_=>0
def opK{R:Type}(E:Env)(B:Bool)(nid:Nat)(op:Op)(st:St)(k:AV->St->Option R):Option R:=
 let ev:=opnd E.gl st.s
 match op with
 |.pick c a b=>match ev c with
  |.bool x=>cond x (k (ev a) st) (k (ev b) st)
  |_=>none
 |.alloc T=>match zjE E.P T with
  |some cs=>k (.ptr nid 0) ⟨st.s,st.h.set nid (some (.cells T cs))⟩
  |none=>none
 |.box T x=>match(cellsA (ev x)).all jb with
  |true=>k (.ptr nid 0) ⟨st.s,st.h.set nid (some (.cells T (cellsA (ev x))))⟩
  |false=>none
 |.buildSlice t len H=>match znd E.P t len (zap ev H.toList)with
  |some (c,o)=>chk c (k (.rw nid) ⟨st.s,st.h.set nid (some o)⟩)
  |none=>none
 |.load t a=>match zcu E.P st.h t (ev a)with
  |some (c,v)=>chk c (k v st)
  |none=>none
 |.store t a x=>match Qo E.P st.h t (ev a) (ev x)with
  |some (c,i,o)=>chk c (k .undef ⟨st.s,st.h.set i (some o)⟩)
  |none=>none
 |.call {callee:=.value f,args,..}=>match ev f with
  |.fn g first cap=>yv E B nid g (first++args.toList.map ev++cap) st k
  |.fns n fs=>Qg E B nid n (args.toList.map ev) st k 0 fs
  |_=>none
 |.call {callee:=.builtin .append,args,argTypes}=>match B,argTypes.toList,args.toList with
  |false,[t,tx],[s,x]=>match zoY E.P st.h t tx (ev s) (un (ev x))with
   |some (b,c,o)=>cond b (chk c (k (.rw nid) ⟨st.s,st.h.set nid (some o)⟩)) (k (ev s) st)
   |none=>match zo0 E.P st.h t tx (un (ev s)) (un (ev x))with
    |some (c,some j,o)=>chk (!memN j (idsO o)&&c) (k (zwM (ev s) nid) ⟨(scrub [j] st).s,((scrub [j] st).h.set j none).set nid (some o)⟩)
    |some (c,none,o)=>chk c (k (.rw nid) ⟨st.s,st.h.set nid (some o)⟩)
    |none=>none
  |_,_,_=>none
 |.call {callee:=.builtin .copy,args,argTypes}=>match argTypes.toList,args.toList with
  |t::_::[],[d,x]=>match zeY E.P st.h t (un (ev d)) (un (ev x))with
   |some (q,i,o)=>k (.int .i64 (q:Int)) ⟨st.s,st.h.set i (some o)⟩
   |none=>none
  |_,_=>none
 |.range t x=>match B,E.P.underlying t,ev x with
  |false,some .string,.str l=>k (.ptr nid 0) ⟨st.s,st.h.set nid (some (.iter l 0))⟩
  |_,_,_=>none
 |.next x true=>match B,ev x with
  |false,.ptr i 0=>match hget st.h i with
   |some (.iter l pos)=>cond (Nat.blt pos l.length)
    (k (.tup [.bool true,.int .i64 (pos:Int),.int .i32 (qy l pos)]) ⟨st.s,st.h.set i (some (.iter l (pos+widthAt l pos)))⟩)
    (k (.tup [.bool false]) st)
   |_=>none
  |_,_=>none
 |.makeMap t r=>match r,WT E.P t,r.map ev with
  |none,_,_=>k (.map nid) ⟨st.s,st.h.set nid (some (.mp []))⟩
  |some _,some _,some (.int _ _)=>k (.map nid) ⟨st.s,st.h.set nid (some (.mp []))⟩
  |_,_,_=>none
 |.lookup t x I ok=>match WT E.P t,Jd st.h (ev x)with
  |some (kt,et),some (_,l)=>match zeL E.P kt (ev I),zwc E.P et with
   |true,some z=>Y8 (ev I) (fun r=>match r with
    |some (_,v)=>k (okV ok v true) st
    |none=>k (okV ok z false) st) l 0
   |_,_=>none
  |_,_=>none
 |.mapUpdate t m x y=>match WT E.P t,Jd st.h (ev m)with
  |some (kt,_),some (i,l)=>match zeL E.P kt (ev x),idsV (ev y)with
   |true,[]=>Y8 (ev x) (fun r=>k .undef ⟨st.s,st.h.set i (some (.mp (mapPut l (ev x) (ev y) r)))⟩) l 0
   |_,_=>none
  |_,_=>none
 |.insert t m x y=>match WT E.P t,Jd st.h (ev m)with
  |some (kt,_),some (i,l)=>match zeL E.P kt (ev x),idsV (ev y)with
   |true,[]=>Y8 (ev x) (fun r=>k .undef ⟨st.s,st.h.set i (some (.mp (mapPut l (ev x) (ev y) r)))⟩) l 0
   |_,_=>none
  |_,_=>none
 |op=>match yK E.P st.h ev op with
  |some (c,.val v)=>chk c (k v st)
  |some (c,.row o)=>chk c (k (newV E.gl op nid) ⟨st.s,st.h.set nid (some o)⟩)
  |none=>match yC E.P st.h ev op with
   |some (c,v)=>chk c (k v st)
   |none=>none
def KP(all:List Oper)(g:Nat):Option Nat:=match all[g]? with
 |some o=>o.dst
 |none=>none
def zcX(n:Nat):Option Nat->Bool
 |none=>true
 |some d=>Nat.blt d n
def j1{R:Type}(E:Env)(j:Bool)(all:List Oper):List Oper->Nat->St->(St->Option R)->Option R
 |[],_,st,k=>k st
 |o::r,nid,st,k=>match zcX E.n o.dst with
  |false=>none
  |true=>
   let go:=fun(st:St)=>opK E j nid o.op st fun v st'=>j1 E j all r (nid+rsv o) ⟨putO o.dst v st'.s,st'.h⟩ k
   match o.guard with
   |none=>go st
   |some (g,want)=>
    let no:=fun(st:St)=>j1 E j all r (nid+rsv o) ⟨putO o.dst (.tup []) st.s,st.h⟩ k
    match KP all g with
    |some t=>match Nat.blt t E.n,get st.s t with
     |true,.bool b=>cond b (cond want (go ⟨put t (.bool true) st.s,st.h⟩) (no ⟨put t (.bool true) st.s,st.h⟩))
      (cond want (no ⟨put t (.bool false) st.s,st.h⟩) (go ⟨put t (.bool false) st.s,st.h⟩))
     |true,.tup []=>no st
     |_,_=>none
    |none=>none
def rsvAll:List Oper->Nat
 |[]=>0
 |o::r=>rsv o+rsvAll r
def wide(h:Heap):Nat->Heap
 |0=>h
 |n+1=>wide (h++[none]) n
inductive An where
 |nil
 |seq (a b:An)
 |one (a:An)
 |two (a b:An)
 |cut (j:Nat) (lv:List Nat) (a b:An)
 |loop (j:Nat) (lv:List Nat) (a:An)
def An.l:An->An
 |.seq a _=>a
 |.one a=>a
 |.two a _=>a
 |.cut _ _ a _=>a
 |.loop _ _ a=>a
 |.nil=>.nil
def An.r:An->An
 |.seq _ b=>b
 |.two _ b=>b
 |.cut _ _ _ b=>b
 |_=>.nil
def zg3(σ:Nat->Option Nat)(h:Heap):List Nat->Option Heap
 |[]=>some []
 |i::r=>match h[i]?,zg3 σ h r with
  |some (some o),some v=>match XT σ o with
   |some o'=>some (some o'::v)
   |none=>none
  |some none,some v=>some (none::v)
  |_,_=>none
def zh4:Heap->List Nat
 |[]=>[]
 |some o::r=>idsO o++zh4 r
 |none::r=>zh4 r
def zBA(m:Nat)(B:List Nat)(st:St):Option (List AV×Heap):=
 let vs:=B.map (get st.s);let acc:=reach st.h 1000 (idsL vs++zh4 (st.h.take m)) (List.range m);let σ:=fun i=>Ja i acc 0
 match zbk acc,KW σ vs,zg3 σ st.h acc with
 |true,some j,some h'=>some (j,h')
 |_,_,_=>none
def zkT:List Nat->List AV->Slots
 |t::r,v::vs=>(t,v)::zkT r vs
 |_,_=>[]
structure Cont(R:Type) where
 normal:St->Option R
 exits:Nat->St->Option R
 ret:St->Option R
structure Cut(R:Type) where
 X:Type
 dec:List AV->Heap->Option X
 run:List Nat->Nat->X->Option R
def YS{R:Type}(fl:List Nat)(vs:List AV)(h:Heap)(n:Nat):List (Cut R)->Nat->Option R
 |[],_=>none
 |c::_,0=>match c.dec vs h with
  |some x=>c.run fl n x
  |none=>none
 |_::r,j+1=>YS fl vs h n r j
def cutK{R:Type}(cs:List (Cut R))(m j:Nat)(B:List Nat)(fl:List Nat)(n:Nat)(st:St):Option R:=match zBA m B st with
 |some (vs,h)=>YS fl vs h n cs j
 |none=>none
def qj{R:Type}(F:(St->Option R)->St->Option R):Nat->St->Option R
 |0,_=>none
 |n+1,st=>F (qj F n) st
def VN{R:Type}(E:Env)(ops:List Oper)(st:St)(k:St->Option R):Option R:=j1 E false ops ops st.h.length ⟨st.s,wide st.h (rsvAll ops)⟩ k
def zS{α:Type}:List α->Bool
 |[]=>true
 |_=>false
def nidOf(ops:List Oper)(base i:Nat):Nat:=base+rsvAll (ops.take i)
structure Fp where
 r:List Nat
 w:List Nat
 big:Bool
def fpO(Q:List FuncId)(ev:Operand->AV)(nid:Nat)(op:Op):Fp:=match op with
 |.load _ a=>⟨idsV (ev a),[],false⟩
 |.store _ a _=>⟨idsV (ev a),idsV (ev a),false⟩
 |.alloc _|.box _ _|.buildSlice _ _ _|.makeSlice _ _ _|.makeMap _ _=>⟨[],[nid],false⟩
 |.lookup _ x _ _=>⟨idsV (ev x),[],false⟩
 |.mapUpdate _ m _ _|.insert _ m _ _=>⟨idsV (ev m),idsV (ev m),false⟩
 |.indexAddr _ x _|.slice _ x _ _ _=>⟨idsV (ev x),[],false⟩
 |.convert _ _ x=>⟨idsV (ev x),[nid],false⟩
 |.binOp _ _ x y _=>match un (ev x),un (ev y)with
  |.rw i,.nils=>⟨[i],[],false⟩
  |_,_=>⟨[],[],false⟩
 |.call {callee:=.value f,args,..}=>match ev f with
  |.fn g first cap=>match idsL (first++args.toList.map ev++cap),memN g Q with
   |[],_=>⟨[],newIds nid j8,false⟩
   |_,true=>⟨[0],[],true⟩
   |_,false=>⟨[],[],true⟩
  |.fns _ _=>match idsL (args.toList.map ev)with
   |[]=>⟨[],newIds nid j8,false⟩
   |_=>⟨[],[],true⟩
  |_=>⟨[],[],true⟩
 |.call {callee:=.builtin .copy,args,..}=>⟨idsL (args.toList.map ev),idsL (args.toList.map ev),false⟩
 |.call {callee:=.builtin _,args,..}=>⟨idsL (args.toList.map ev),[],false⟩
 |_=>⟨[],[],false⟩
def zx(all:List Oper)(o:Oper)(st:St):Option Bool:=match o.guard with
 |none=>some true
 |some (g,want)=>match KP all g with
  |some t=>match get st.s t with
   |.bool b=>some (b==want)
   |.tup []=>some false
   |_=>none
  |none=>none
def fpW(E:Env)(all:List Oper)(st:St)(nid:Nat)(o:Oper):Fp:=match zx all o st with
 |some false=>⟨[],[],false⟩
 |_=>fpO E.Q (opnd E.gl st.s) nid o.op
def zB7(a b:List Nat):Bool:=a.all fun i=>!memN i b
def Vo(a b:Fp):Bool:=match a.big,b.big with
 |false,false=>zB7 a.w b.r&&zB7 a.w b.w&&zB7 b.w a.r
 |true,false=>(zS b.w&&(zS b.r||(!zS a.r&&zS a.w)))||(zS b.r&&(!zS a.r&&zS a.w))
 |false,true=>zS a.w&&(zS a.r||(!zS b.r&&zS b.w))
 |true,true=>(!zS a.r&&zS a.w)&&(!zS b.r&&zS b.w)
def zlV(n:Nat)(ops:List Oper):Bool:=
 let B:=Vc.beforeOf true ops
 ops.zipIdx.all fun(o,i)=>
  ((Vc.edgesOf o).all fun e=>Nat.blt e i)&&
  (match o.dst with
   |some d=>Nat.blt d n&&(match Vc.wrFrom ops 0 d with
    |some j=>Nat.beq j i
    |none=>false)
   |none=>true)&&
  ((o.looksAt ops.toArray).all fun t=>match Vc.wrFrom ops 0 t with
   |some j=>memN j (B[i]?.getD [])
   |none=>true)
def zfJ(E:Env)(ops:List Oper)(base:Nat)(st:St):Bool:=
 let B:=Vc.beforeOf true ops;let fps:=ops.zipIdx.map fun(o,i)=>fpW E ops st (nidOf ops base i) o
 fps.zipIdx.all fun(a,i)=>(fps.take i).zipIdx.all fun(b,j)=>memN j (B[i]?.getD [])||Vo b a
def zd0{R:Type}(E:Env)(ops:List Oper)(st:St)(j:Option R)(k:St->Option R):Option R:=
 match zlV E.n ops with
 |true=>j1 E true ops ops st.h.length ⟨st.s,wide st.h (rsvAll ops)⟩ fun st'=>match zfJ E ops st.h.length st' with
  |true=>k st'
  |false=>j
 |false=>j
mutual
def zev:AV->AV->Bool
 |.undef,.undef=>true
 |.int k n,.int S Y=>kEq k S&&decide (n=Y)
 |.bool b,.bool I=>b==I
 |.str l,.str B=>decide (l=B)
 |.nilp,.nilp=>true
 |.nilf,.nilf=>true
 |.nili,.nili=>true
 |.nilm,.nilm=>true
 |.nils,.nils=>true
 |.ptr i o,.ptr j o'=>Nat.beq i j&&Nat.beq o o'
 |.rp v,.rp U=>zev v U
 |.rw i,.rw j=>Nat.beq i j
 |.rwp i,.rwp j=>Nat.beq i j
 |.rwf i,.rwf j=>Nat.beq i j
 |.ep i z a b,.ep j O J I=>(Nat.beq i j&&Nat.beq z O)&&(decide (a=J)&&Nat.beq b I)
 |.rws i z a b,.rws j O J I=>(Nat.beq i j&&Nat.beq z O)&&(decide (a=J)&&decide (b=I))
 |.iface t v,.iface t' U=>Nat.beq t t'&&zev v U
 |.pos k,.pos S=>kEq k S
 |.fns n l,.fns Y B=>decide (n=Y)&&decide (l=B)
 |.rwc i z a b,.rwc j O J I=>(Nat.beq i j&&Nat.beq z O)&&(decide (a=J)&&decide (b=I))
 |.rob f l,.rob H B=>(f==H)&&decide (l=B)
 |.roi f k l,.roi H S B=>(f==H)&&kEq k S&&decide (l=B)
 |.ros f l,.ros H B=>(f==H)&&decide (l=B)
 |.rov f z l,.rov H O B=>(f==H)&&Nat.beq z O&&qK l B
 |.fn f a c,.fn H J Z=>Nat.beq f H&&qK a J&&qK c Z
 |.agg l,.agg B=>qK l B
 |.tup l,.tup B=>qK l B
 |.map i,.map j=>Nat.beq i j
 |_,_=>false
def qK:List AV->List AV->Bool
 |[],[]=>true
 |a::r,b::s=>zev a b&&qK r s
 |_,_=>false
end
def isAnch:Op->Bool
 |.store _ _ _|.alloc _|.box _ _|.buildSlice _ _ _|.makeSlice _ _ _|.makeMap _ _|.mapUpdate _ _ _ _|.insert _ _ _ _|.convert _ _ _|.range _ _|.next _ _=>true
 |.call {callee:=.builtin .append,..}=>true
 |.call {callee:=.builtin .copy,..}=>true
 |.call {callee:=.value _,..}=>true
 |_=>false
def zde:Op->Bool
 |.call {callee:=.builtin .append,..}=>false
 |.call {callee:=.value _,..}=>false
 |_=>true
def zmi(f:Fp):Bool:=zS f.w&&(!f.big||!zS f.r)
def zeW(d:Option Nat)(v:AV)(st:St):Bool:=match d with
 |none=>true
 |some d=>zev v (get st.s d)
def zmM{R:Type}(E:Env)(all:List Oper)(base:Nat):List (Oper×Nat)->St->(St->Option R)->Option R
 |[],st,k=>k st
 |(o,j)::r,st,k=>match zx all o st with
  |some true=>opK E true (nidOf all base j) o.op st fun v _=>zmM E all base r ⟨putO o.dst v st.s,st.h⟩ k
  |some false=>zmM E all base r ⟨putO o.dst (.tup []) st.s,st.h⟩ k
  |none=>none
def zfs{R:Type}(E:Env)(all:List Oper)(base:Nat):List (Oper×Nat)->St->Option R->Option R
 |[],_,k=>k
 |(o,j)::r,st,k=>match zmi (fpW E all st (nidOf all base j) o)with
  |false=>none
  |true=>match zx all o st with
   |some true=>opK E true (nidOf all base j) o.op st fun v _=>cond (zeW o.dst v st) (zfs E all base r st k) none
   |some false=>cond (zeW o.dst (.tup []) st) (zfs E all base r st k) none
   |none=>none
def zmP{R:Type}(E:Env)(all:List Oper)(base:Nat)(o:Oper)(i:Nat)(st:St)(K:St->Option R):Option R:=match zx all o st with
 |some true=>opK E (zde o.op) (nidOf all base i) o.op st fun v st'=>K ⟨putO o.dst v st'.s,st'.h⟩
 |some false=>K ⟨putO o.dst (.tup []) st.s,st.h⟩
 |none=>none
def zqj(B:List (List Nat))(H:List (Oper×Nat))(j:Nat):Bool:=H.all fun a=>!memN a.2 (B[j]?.getD [])
def zBC(B:List (List Nat))(pa:Option Nat)(j:Nat):Bool:=match pa with
 |none=>true
 |some p=>memN p (B[j]?.getD [])
def zCG(B:List (List Nat))(pa:Option Nat)(j:Nat):Bool:=match pa with
 |none=>true
 |some p=>!memN j (B[p]?.getD [])
def za6{R:Type}(E:Env)(all:List Oper)(base:Nat)(B:List (List Nat))(fs j:List (Oper×Nat))(pa:Option Nat)(st:St)(K:St->Option R):Option R:=zmM E all base (fs.filter fun f=>zqj B j f.2&&zBC B pa f.2) st fun st=>zfs E all base (fs.filter fun f=>zqj B j f.2&&zCG B pa f.2) st (K st)
def evG{R:Type}(E:Env)(all:List Oper)(base:Nat)(B:List (List Nat))(fs:List (Oper×Nat)):List (Oper×Nat)->Option Nat->St->(St->Option R)->Option R
 |[],pa,st,K=>za6 E all base B fs [] pa st K
 |(o,i)::r,pa,st,K=>za6 E all base B fs ((o,i)::r) pa st fun st=>zmP E all base o i st fun st=>evG E all base B fs r (some i) st K
def zna(B:List (List Nat)):List (Oper×Nat)->Bool
 |[]=>true
 |a::l=>(l.all fun b=>memN a.2 (B[b.2]?.getD []))&&zna B l
def zfI(n:Nat)(ops:List Oper)(B:List (List Nat)):Bool:=
 (ops.zipIdx.all fun(o,i)=>
  ((Vc.edgesOf o).all fun e=>Nat.blt e i)&&
  (match o.dst with
   |some d=>Nat.blt d n&&(match Vc.wrFrom ops 0 d with
    |some j=>Nat.beq j i
    |none=>false)
   |none=>true)&&
  ((o.looksAt ops.toArray).all fun t=>match Vc.wrFrom ops 0 t with
   |some j=>memN j (B[i]?.getD [])||((match ops[j]? with
    |some H=>isAnch H.op
    |none=>false)&&(Nat.beq j i||memN i (B[j]?.getD [])))
   |none=>true))&&
 zna B (ops.zipIdx.filter fun x=>isAnch x.1.op)
def yp{R:Type}(E:Env)(ops:List Oper)(st:St)(k:St->Option R):Option R:=
 let B:=Vc.beforeOf true ops
 match zfI E.n ops B with
 |true=>evG E ops st.h.length B (ops.zipIdx.filter fun x=>!isAnch x.1.op) (ops.zipIdx.filter fun x=>isAnch x.1.op) none ⟨st.s,wide st.h (rsvAll ops)⟩ k
 |false=>none
def zmv(m:Nat)(ops:List Oper):Bool:=(ops.take (ops.length-m)).any fun o=>(match o.guard with
 |none=>true
 |some _=>false)&&(match o.op with
 |.call {callee:=.builtin .append,..}=>true
 |_=>false)
def zcm(n m:Nat)(ops:List Oper):Bool:=
 let B:=Vc.beforeOf true ops
 ops.zipIdx.all fun(o,i)=>
  ((Vc.edgesOf o).all fun e=>Nat.blt e i)&&
  (match o.dst with
   |some d=>Nat.blt d n&&(match Vc.wrFrom ops 0 d with
    |some j=>Nat.beq j i
    |none=>false)
   |none=>true)&&
  ((o.looksAt ops.toArray).all fun t=>match Vc.wrFrom ops 0 t with
   |some j=>memN j (B[i]?.getD [])||Nat.ble (ops.length-m) j
   |none=>true)
def za4(m:Nat)(ops:List Oper):Bool:=
 let B:=Vc.beforeOf true ops
 Nat.ble m ops.length&&(List.range m).all fun d=>match ops[ops.length-m+d]?,B[ops.length-m+d]? with
  |some o,some l=>(match o.guard with
   |none=>true
   |some _=>false)&&(List.range (ops.length-m+d)).all fun j=>memN j l
  |_,_=>false
def Z1{R:Type}(E:Env)(m:Nat)(ops:List Oper)(st:St)(j:Option R)(k:St->Option R):Option R:=
 match zcm E.n m ops with
 |true=>j1 E true ops (ops.take (ops.length-m)) st.h.length ⟨st.s,wide st.h (rsvAll ops)⟩ fun st'=>match zfJ E ops st.h.length st' with
  |true=>j1 E false ops (ops.drop (ops.length-m)) (nidOf ops st.h.length (ops.length-m)) st' k
  |false=>j
 |false=>j
def zmC(L:Nat)(ops:List Oper)(o:Oper):Bool:=match o.op,o.guard,o.dst with
 |.move (.tmp t),none,some _=>match Vc.wrFrom ops 0 t with
  |some j=>Nat.blt j L
  |none=>true
 |_,_,_=>false
def Zk:Op->Bool
 |.call {callee:=.builtin .append,..}=>true
 |_=>false
def znT(L:Nat)(ops:List Oper):Bool:=
 let B:=Vc.beforeOf true ops
 (match ops[L]?,B[L]? with
  |some o,some l=>Zk o.op&&((match o.guard with
   |none=>true
   |some _=>false)&&(List.range L).all fun j=>memN j l||(match ops[j]? with
    |some H=>zmC L ops H
    |none=>false))
  |_,_=>false)&&
 (List.range (ops.length-(L+1))).all fun d=>match ops[L+1+d]?,B[L+1+d]? with
  |some o,some l=>(match o.guard with
   |none=>true
   |some _=>false)&&(List.range (L+1+d)).all fun j=>memN j l
  |_,_=>false
def zgH:List Oper->Nat->Nat->Nat
 |[],_,r=>r
 |o::l,i,r=>zgH l (i+1) (cond (Zk o.op) i r)
def Y9{R:Type}(E:Env)(ops:List Oper)(st:St)(k:St->Option R):Option R:=match znT (zgH ops 0 ops.length) ops with
 |true=>Z1 E (ops.length-zgH ops 0 ops.length) ops st (yp E ops st k) k
 |false=>match za4 2 ops&&!zmv 2 ops with
  |true=>Z1 E 2 ops st (yp E ops st k) k
  |false=>match za4 1 ops&&!zmv 1 ops with
   |true=>Z1 E 1 ops st (yp E ops st k) k
   |false=>match zmv 0 ops with
    |true=>yp E ops st k
    |false=>zd0 E ops st (yp E ops st k) k
def sealP(m:Nat)(h:Heap)(v:AV):AV:=match v with
 |.ptr i 0=>match Nat.ble m i,hget h i with
  |true,some (.cells _ [u])=>match zS (idsV u),jb u with
   |true,true=>.rp u
   |_,_=>v
  |_,_=>v
 |v=>v
def sealQ(m:Nat)(h:Heap)(v:AV):List Nat:=match v with
 |.ptr i 0=>match Nat.ble m i,hget h i with
  |true,some (.cells _ [u])=>match zS (idsV u),jb u with
   |true,true=>[i]
   |_,_=>[]
  |_,_=>[]
 |_=>[]
def JA(j:Bool)(z:Nat)(cs:List AV):Bool:=zS (idsL cs)&&(j||(Nat.beq z 1&&cs.all jb))
def Vg(j:Bool)(z n:Nat)(cs:List AV):List AV:=cond j (Kh z n cs) cs
def sealV(m:Nat)(h:Heap):AV->AV
 |.fn f first cap=>.fn f first (cap.map (sealP m h))
 |.ptr i 0=>match Nat.ble m i,hget h i with
  |true,some (.cells _ cs)=>match Nat.ble 2 cs.length&&cs.all W4 with
   |true=>.rp (.agg cs)
   |false=>.ptr i 0
  |_,_=>.ptr i 0
 |.rw i=>match Nat.ble m i,hget h i with
  |true,some (.bytes _ l)=>.rob false l
  |true,some (.ints _ k l)=>.roi false k l
  |true,some (.strs _ l)=>.ros false l
  |true,some (.vals _ z l)=>.rov false z l
  |true,some (.gens _ j z n cs)=>match JA j z cs with
   |true=>.rov false z (Vg j z n cs)
   |false=>.rw i
  |_,_=>.rw i
 |.rwf i=>match Nat.ble m i,hget h i with
  |true,some (.bytes _ l)=>.rob true l
  |true,some (.ints _ k l)=>.roi true k l
  |true,some (.strs _ l)=>.ros true l
  |true,some (.vals _ z l)=>.rov true z l
  |true,some (.gens _ j z n cs)=>match JA j z cs with
   |true=>.rov true z (Vg j z n cs)
   |false=>.rwf i
  |_,_=>.rwf i
 |.rwc i z c n=>match Nat.ble m i,hget h i with
  |true,some (.bytes _ l)=>match Nat.beq z 1 with
   |true=>.rob true (subL l c (c+n))
   |false=>.rwc i z c n
  |true,some (.ints _ k l)=>match Nat.beq z 1 with
   |true=>.roi true k (subL l c (c+n))
   |false=>.rwc i z c n
  |true,some (.strs _ l)=>match Nat.beq z 1 with
   |true=>.ros true (subL l c (c+n))
   |false=>.rwc i z c n
  |true,some (.vals _ B l)=>match Nat.beq z B with
   |true=>.rov true z (subL l c (c+n))
   |false=>.rwc i z c n
  |true,some (.gens _ j B _ cs)=>match JA j z cs&&Nat.beq z B with
   |true=>.rov true z (Vg j z n.toNat ((cs.drop (c.toNat*z)).take (n.toNat*z)))
   |false=>.rwc i z c n
  |_,_=>.rwc i z c n
 |v=>v
def sealI(m:Nat)(h:Heap):AV->List Nat
 |.fn _ _ cap=>cap.flatMap (sealQ m h)
 |.ptr i 0=>match Nat.ble m i,hget h i with
  |true,some (.cells _ cs)=>match Nat.ble 2 cs.length&&cs.all W4 with
   |true=>[i]
   |false=>[]
  |_,_=>[]
 |.rw i=>match Nat.ble m i,hget h i with
  |true,some (.bytes _ _)|true,some (.ints _ _ _)|true,some (.strs _ _)|true,some (.vals _ _ _)=>[i]
  |true,some (.gens _ j z _ cs)=>match JA j z cs with
   |true=>[i]
   |false=>[]
  |_,_=>[]
 |.rwf i=>match Nat.ble m i,hget h i with
  |true,some (.bytes _ _)|true,some (.ints _ _ _)|true,some (.strs _ _)|true,some (.vals _ _ _)=>[i]
  |true,some (.gens _ j z _ cs)=>match JA j z cs with
   |true=>[i]
   |false=>[]
  |_,_=>[]
 |.rwc i z _ _=>match Nat.ble m i,hget h i with
  |true,some (.bytes _ _)=>match Nat.beq z 1 with
   |true=>[i]
   |false=>[]
  |true,some (.ints _ _ _)=>match Nat.beq z 1 with
   |true=>[i]
   |false=>[]
  |true,some (.strs _ _)=>match Nat.beq z 1 with
   |true=>[i]
   |false=>[]
  |true,some (.vals _ B _)=>match Nat.beq z B with
   |true=>[i]
   |false=>[]
  |true,some (.gens _ j B _ cs)=>match JA j z cs&&Nat.beq z B with
   |true=>[i]
   |false=>[]
  |_,_=>[]
 |_=>[]
def sealA(m:Nat)(h:Heap):AV->AV
 |.agg cs=>.agg (cs.map (sealV m h))
 |v=>sealV m h v
def sealJ(m:Nat)(h:Heap):AV->List Nat
 |.agg cs=>cs.flatMap (sealI m h)
 |v=>sealI m h v
def yn:List Nat->Heap->Heap
 |[],h=>h
 |i::r,h=>yn r (h.set i none)
def zCv:Glob->Option (List FuncId)
 |[]=>none
 |(_,v)::r=>match v with
  |.fns _ fs=>some fs
  |_=>zCv r
def zu7(g:AV->AV):Slots->Slots
 |[]=>[]
 |(t,v)::r=>(t,g v)::zu7 g r
def zsZ(m:Nat)(h:Heap)(D:List Nat)(v:AV):AV:=match idsV v with
 |[]=>v
 |_=>match(sealJ m h v).all (fun i=>memN i D)&&(idsV (sealA m h v)).all (fun i=>!memN i D)with
  |true=>sealA m h v
  |false=>ya D v
def sealSt(m:Nat)(D:List Nat)(st:St):St:=⟨zu7 (zsZ m st.h D) st.s,yn D (scrub D st).h⟩
def zwC(m:Nat)(h:Heap)(v:AV):List Nat:=match v with
 |.ptr _ 0=>sealI m h v
 |_=>[]
def zqt:Glob->Bool
 |[]=>false
 |(_,v)::r=>match v with
  |.fns n _=>match decide (n=4)with
   |true=>true
   |false=>zqt r
  |_=>zqt r
def WB(E:Env)(m:Nat)(fs:List FuncId)(op:Op)(st:St):List Nat:=match op with
 |.buildSlice _ _ j=>(zap (opnd E.gl st.s) j.toList).flatMap fun p=>sealJ m st.h p.2
 |.call {callee:=.value f,args,..}=>match opnd E.gl st.s f with
  |.fn g _ _=>match memN g fs with
   |true=>args.toList.flatMap fun x=>sealJ m st.h (opnd E.gl st.s x)
   |false=>[]
  |_=>[]
 |.slice _ x _ _ _=>match zqt E.gl with
  |true=>sealJ m st.h (opnd E.gl st.s x)
  |false=>zwC m st.h (opnd E.gl st.s x)
 |_=>[]
def zCq(v:AV):AV:=match v with
 |.nils=>.rob false []
 |v=>v
def weakO(o:Option AO):Option AO:=match o with
 |some (.cells T cs)=>some (.cells T (cs.map zCq))
 |o=>o
def yE:Nat->Heap->Heap
 |_,[]=>[]
 |0,o::r=>weakO o::yE 0 r
 |m+1,o::r=>o::yE m r
def zCp:Glob->Bool
 |[]=>false
 |(_,v)::r=>match v with
  |.fns n _=>decide (n=1)
  |_=>zCp r
def zli:Glob->List Nat
 |[]=>[]
 |(_,v)::r=>match v with
  |.fns n fs=>match decide (n=2)with
   |true=>fs
   |false=>zli r
  |_=>zli r
def weakS:List Nat->Slots->Slots
 |[],s=>s
 |t::r,s=>weakS r (match get s t with
  |.nils=>put t (.rob false []) s
  |_=>s)
def weakOp0(E:Env)(m:Nat)(fs:List FuncId)(op:Op)(st:St):St:=match op with
 |.call {callee:=.value f,..}=>match opnd E.gl st.s f with
  |.fn g _ _=>match memN g fs&&zCp E.gl with
   |true=>⟨st.s,yE m st.h⟩
   |false=>st
  |_=>st
 |_=>st
def weakOp(E:Env)(m:Nat)(fs:List FuncId)(op:Op)(st:St):St:=weakOp0 E m fs op ⟨weakS (zli E.gl) st.s,st.h⟩
def sealOp(E:Env)(m:Nat)(fs:List FuncId)(op:Op)(st:St):St:=weakOp E m fs op (match WB E m fs op st with
 |[]=>st
 |D=>sealSt m D st)
def VO{R:Type}(E:Env)(m:Nat)(fs:List FuncId)(all:List Oper):List Oper->Nat->St->(St->Option R)->Option R
 |[],_,st,k=>k st
 |o::r,nid,st,k=>match zcX E.n o.dst with
  |false=>none
  |true=>
   let go:=fun(st:St)=>opK E false nid o.op (sealOp E m fs o.op st) fun v st'=>VO E m fs all r (nid+rsv o) ⟨putO o.dst v st'.s,st'.h⟩ k
   match o.guard with
   |none=>go st
   |some (g,want)=>
    let no:=fun(st:St)=>VO E m fs all r (nid+rsv o) ⟨putO o.dst (.tup []) st.s,st.h⟩ k
    match KP all g with
    |some t=>match Nat.blt t E.n,get st.s t with
     |true,.bool b=>cond b (cond want (go ⟨put t (.bool true) st.s,st.h⟩) (no ⟨put t (.bool true) st.s,st.h⟩))
      (cond want (no ⟨put t (.bool false) st.s,st.h⟩) (go ⟨put t (.bool false) st.s,st.h⟩))
     |true,.tup []=>no st
     |_,_=>none
    |none=>none
def zdZ{R:Type}(E:Env)(m:Nat)(ops:List Oper)(st:St)(k:St->Option R):Option R:=match zCv E.gl with
 |none=>VN E ops st k
 |some fs=>VO E m fs ops ops st.h.length ⟨st.s,wide st.h (rsvAll ops)⟩ k
def qe{R:Type}(i:Nat)(K:Cont R):Cont R:=⟨K.normal,fun j st=>match Nat.beq j i with
 |true=>K.normal st
 |false=>K.exits j st,K.ret⟩
def ev{R:Type}(E:Env)(cs:List (Cut R))(m:Nat):List Nat->Code->An->St->Cont R->Option R
 |_,.skip,_,st,K=>K.normal st
 |_,.label _,_,st,K=>K.normal st
 |_,.ret,_,st,K=>K.ret st
 |_,.exit i,_,st,K=>K.exits i st
 |_,.region _ ops H,_,st,K=>match H with
  |false=>zdZ E m ops.toList st K.normal
  |true=>Y9 E ops.toList st K.normal
 |fl,.seq a b,an,st,K=>match an with
  |.cut j I la _=>ev E cs m fl a la st ⟨cutK cs m j I fl 1,K.exits,K.ret⟩
  |an=>ev E cs m fl a an.l st ⟨fun st'=>ev E cs m fl b an.r st' K,K.exits,K.ret⟩
 |fl,.cond c a b,an,st,K=>match opnd E.gl st.s c with
  |.bool x=>cond x (ev E cs m fl a an.l st K) (ev E cs m fl b an.r st K)
  |_=>none
 |fl,.block i a,an,st,K=>ev E cs m fl a an.l st (qe i K)
 |fl,.loop a,an,st,K=>match an with
  |.loop j I _=>cutK cs m j I fl E.N st
  |_=>qj (fun B st'=>ev E cs m fl a .nil st' ⟨B,K.exits,K.ret⟩) 64 st
 |_,_,_,_,_=>none
def jH{R:Type}(E:Env)(cs:List (Cut R))(m:Nat)(j n:Nat)(vs:List AV)(h:Heap):List Nat->List Nat->Code->An->Cont R->List (Option R)
 |fs,fl,.seq a b,an,K=>match an with
  |.cut B H la J=>(match Nat.beq B j,fs with
   |true,[]=>[ev E cs m fl b J ⟨zkT H vs,h⟩ K]
   |_,_=>[])++(jH E cs m j n vs h fs fl a la ⟨cutK cs m B H fl 1,K.exits,K.ret⟩++jH E cs m j n vs h fs fl b J K)
  |an=>jH E cs m j n vs h fs fl a an.l ⟨fun st'=>ev E cs m fl b an.r st' K,K.exits,K.ret⟩++jH E cs m j n vs h fs fl b an.r K
 |fs,fl,.cond _ a b,an,K=>jH E cs m j n vs h fs fl a an.l K++jH E cs m j n vs h fs fl b an.r K
 |fs,fl,.block i a,an,K=>jH E cs m j n vs h fs fl a an.l (qe i K)
 |fs,fl,.loop a,an,K=>match an with
  |.loop B H la=>(match Nat.beq B j,fs with
   |true,[]=>[ev E cs m (n::fl) a la ⟨zkT H vs,h⟩ ⟨cutK cs m B H fl n,K.exits,K.ret⟩]
   |_,_=>[])++(match fs with
   |[]=>[]
   |O::I=>jH E cs m j n vs h I (O::fl) a la ⟨cutK cs m B H fl O,K.exits,K.ret⟩)
  |_=>[]
 |_,_,_,_,_=>[]
def yA(j:Nat):Nat->Code->An->List Nat
 |d,.seq a b,an=>match an with
  |.cut B _ la H=>(match Nat.beq B j with
   |true=>[d]
   |false=>[])++(yA j d a la++yA j d b H)
  |an=>yA j d a an.l++yA j d b an.r
 |d,.cond _ a b,an=>yA j d a an.l++yA j d b an.r
 |d,.block _ a,an=>yA j d a an.l
 |d,.loop a,an=>match an with
  |.loop B _ la=>(match Nat.beq B j with
   |true=>[d]
   |false=>[])++yA j (d+1) a la
  |_=>[]
 |_,_,_=>[]
def zoe(P:Program)(st:St):List ResultVar->Option (List AV)
 |[]=>some []
 |.tmp t::r=>match zoe P st r with
  |some vs=>some (get st.s t::vs)
  |none=>none
 |.cell t T::r=>match zcu P st.h T (get st.s t),zoe P st r with
  |some (true,v),some vs=>some (v::vs)
  |_,_=>none
def resV(vs:List AV):AV:=match vs with
 |[v]=>v
 |vs=>.tup vs
def fin(P:Program)(m:Nat)(j:List ResultVar)(st:St):Option Out:=
 match zoe P st j with
 |some vs=>
  let D:=vs.flatMap (sealJ m st.h);let v:=resV (vs.map (sealA m st.h));let h1:=yn D (scrub D st).h;let acc:=reach h1 1000 (idsV v++zh4 (h1.take m)) (List.range m);let σ:=fun i=>Ja i acc 0
  match zbk acc,(idsV v).any (fun i=>memN i D),jX σ v,zg3 σ h1 acc with
  |true,false,some B,some h'=>some ⟨B,h'⟩
  |_,_,_,_=>none
 |none=>none
def zar(P:Program)(m:Nat)(j:List ResultVar)(st:St):Option Out:=
 match zoe P st j with
 |some vs=>
  let v:=resV vs;let acc:=reach st.h 1000 (idsV v++zh4 (st.h.take m)) (List.range m);let σ:=fun i=>Ja i acc 0
  match zbk acc,jX σ v,zg3 σ st.h acc with
  |true,some B,some h'=>some ⟨B,h'⟩
  |_,_,_=>none
 |none=>none
def zEw{R:Type}(P:Program)(m:Nat)(j:List ResultVar)(B:Out->Option R)(st:St):Option R:=
 match zar P m j st with
 |some o=>B o
 |none=>none
def zBo{R:Type}(P:Program)(m:Nat)(j:List ResultVar)(B:Out->Option R)(st:St):Option R:=
 match fin P m j st with
 |some o=>match B o with
  |some r=>some r
  |none=>zEw P m j B st
 |none=>none
def zel:Nat->List AV->Slots
 |_,[]=>[]
 |i,v::r=>(i,v)::zel (i+1) r
def zBp{R:Type}(P:Program)(m:Nat)(j:List ResultVar)(B:Out->Option R):Cont R:=⟨zBo P m j B,fun _ _=>none,zBo P m j B⟩
def evF{R:Type}(E:Env)(cs:List (Cut R))(H:Code)(an:An)(j:List ResultVar)(I:Out->Option R)(B:List AV)(h:Heap):Option R:=ev E cs h.length [] H an ⟨zel 0 B,h⟩ (zBp E.P h.length j I)
def Qy{R:Type}(E:Env)(cs:List (Cut R))(m:Nat)(H:Code)(an:An)(B:List ResultVar)(I:Out->Option R)(j:Nat)(fs:List Nat)(n:Nat)(vs:List AV)(h:Heap):List (Option R):=jH E cs m j n vs h fs [] H an (zBp E.P m B I)
end Go.Am
