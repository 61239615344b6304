/-
  A part of the proof of the laws on edits.
-/
import Derived.Test.YtpghlpmkljkakaaGreatDoorVc2
import Derived.Shelf.Abstract
import Derived.Laws.CopyRow
namespace Go.Vc
open Go Go.RowKit
inductive Hint where
 |auto (m:Mode)
 |mem (e:Nat)
 |call (v:Value) (st:List Nat) (eff:Option (Nat×Obj))
 |callO (v:Value) (st:List Nat) (eff:Option (Nat×Obj))
 |callP (Φ:Value→World→Prop) (st:List Nat)
 |callQ (v:Value) (st:List Nat)
structure OpR where
 path:List (Nat×Bool)
 val:Value
 eff:Option (Nat×Obj)
 pr:Option (Value→World→Prop):=none
structure RCtx where
 P:Program
 X:List Nat
 w0:World
 ws:World
 Y:List Nat
 ops:List Oper
 L:List (Nat×Value)
 H:List HB
 hints:List (Nat×Hint)
def hintAt:List (Nat×Hint)→Nat→Hint
 |[],_=>.auto .exact
 |(j,h)::r,i=>match Nat.beq j i with
  |true=>h
  |false=>hintAt r i
def wrFrom:List Oper→Nat→Nat→Option Nat
 |[],_,_=>none
 |o::r,i,t=>match o.dst with
  |some d=>match Nat.beq d t with
   |true=>some i
   |false=>wrFrom r (i+1) t
  |none=>wrFrom r (i+1) t
def pEq(a b:Nat×Bool):Bool:=Nat.beq a.1 b.1&&(a.2==b.2)
def pathEq:List (Nat×Bool)→List (Nat×Bool)→Bool
 |[],[]=>true
 |a::r,b::s=>pEq a b&&pathEq r s
 |_,_=>false
def suf(q:List (Nat×Bool)):List (Nat×Bool)→Bool
 |[]=>pathEq q []
 |x::r=>pathEq q (x::r)||suf q r
theorem pathEq_eq:∀{a b:List (Nat×Bool)},pathEq a b=true→a=b
 |[],[],_=>rfl
 |x::r,y::s,h=>by simp only[pathEq,pEq,Bool.and_eq_true,beq_iff_eq]at h;obtain⟨⟨h1,h2⟩,h3⟩:=h;have e1:=Nat.eq_of_beq_eq_true h1;have e3:=pathEq_eq h3;cases x;cases y;simp_all
 |[],_::_,h=>by simp[pathEq]at h
 |_::_,[],h=>by simp[pathEq]at h
def gB(rs:List OpR)(g:Nat):Bool:=
 match rs[g]? with
 |some r=>match r.val with
  |.bool b=>b
  |_=>false
 |none=>false
def pathB(rs:List OpR):List (Nat×Bool)→Bool
 |[]=>true
 |(g,w)::r=>(gB rs g==w)&&pathB rs r
theorem suf_pathB{rs:List OpR}{q:List (Nat×Bool)}:∀{p:List (Nat×Bool)},suf q p=true→pathB rs p=true→pathB rs q=true
 |[],h,_=>by have e:q=[]:=pathEq_eq (by simpa[suf]using h);rw[e];rfl
 |x::r,h,hp=>by
  simp only[suf,Bool.or_eq_true]at h;rcases h with h|h
  ·rw[pathEq_eq h];exact hp
  ·obtain⟨g,w⟩:=x;simp only[pathB,Bool.and_eq_true]at hp;exact suf_pathB h hp.2
def slotAt(ops:List Oper)(L:List (Nat×Value))(rs:List OpR)(t:Nat):Option (List (Nat×Bool)×Value):=
 match(match wrFrom ops 0 t with|some j=>rs[j]? |none=>none)with
 |some r=>match r.pr with
  |none=>some (r.path,r.val)
  |some _=>none
 |none=>match look L t with
  |some v=>some ([],v)
  |none=>none
def envAt(ops:List Oper)(L:List (Nat×Value))(rs:List OpR)(p:List (Nat×Bool)):Operand→Option Value
 |.const v=>some v
 |.global g=>some (.pointer (some ⟨g,0,none⟩))
 |.func f=>some (.func (.func f) #[] #[])
 |.tmp t=>match slotAt ops L rs t with
  |some (q,v)=>if suf q p then some v else none
  |none=>none
def envP(ops:List Oper)(L:List (Nat×Value))(rs:List OpR)(p:List (Nat×Bool))(x:Operand):Option (Value⊕(Value→World→Prop)):=
 match envAt ops L rs p x with
 |some v=>some (.inl v)
 |none=>match x with
  |.tmp t=>match(match wrFrom ops 0 t with|some j=>rs[j]? |none=>none)with
   |some r=>match r.pr with
    |some Φ=>if suf r.path p then some (.inr Φ)else none
    |none=>none
   |none=>none
  |_=>none
def mapQ(ops:List Oper)(L:List (Nat×Value))(rs:List OpR)(p:List (Nat×Bool)):List Operand→Option (List (Value⊕(Value→World→Prop)))
 |[]=>some []
 |x::r=>match envP ops L rs p x,mapQ ops L rs p r with
  |some v,some vs=>some (v::vs)
  |_,_=>none
def okV:Value⊕(Value→World→Prop)→Value→World→Prop
 |.inl u,v,_=>v=u
 |.inr Φ,v,W=>Φ v W
def okVs:List (Value⊕(Value→World→Prop))→List Value→World→Prop
 |[],[],_=>True
 |s::r,v::vs,W=>okV s v W∧okVs r vs W
 |_,_,_=>False
def StableP(Φ:Value→World→Prop):Prop:=∀v W W',Φ v W→Keeps [] W W'→Φ v W'
def wE(e:Nat):List OpR→Nat→Option (Nat×Obj)
 |[],_=>none
 |r::rs,i=>match r.eff with
  |some (e',o)=>match Nat.beq e' e with
   |true=>some (i,o)
   |false=>wE e rs (i+1)
  |none=>wE e rs (i+1)
def hbAt(H:List HB)(rs:List OpR)(e:Nat):Option HB:=
 match H[e]? with
 |some h=>match wE e rs 0 with
  |some (_,o)=>some ⟨h.b,o,h.wr⟩
  |none=>some h
 |none=>none
def stAt(H:List HB)(rs:List OpR):List Nat→Option (List HB)
 |[]=>some []
 |e::r=>match hbAt H rs e,stAt H rs r with
  |some h,some hs=>some (h::hs)
  |_,_=>none
def pimp(rs:List OpR):List (Nat×Bool)→Prop→Prop
 |[],c=>c
 |(g,w)::r,c=>pimp rs r (gB rs g=w→c)
theorem pimp_out{rs:List OpR}:∀{p:List (Nat×Bool)}{c:Prop},pimp rs p c→pathB rs p=true→c
 |[],_,h,_=>h
 |(g,w)::r,c,h,hp=>by simp only[pathB,Bool.and_eq_true,beq_iff_eq]at hp;exact pimp_out (p:=r) h hp.2 hp.1
def pickV(b:Bool)(cx cy:Operand)(vx vy:Value):Option Value:=
 match cy,vx with
 |.const (.bool false),.bool x=>some (.bool (b&&x))
 |_,_=>match cx,vy with
  |.const (.bool true),.bool y=>some (.bool (b||y))
  |_,_=>match vx,vy with
   |.bool x,.bool y=>some (.bool (if b then x else y))
   |.int k x,.int k' y=>if kEq k k' then some (.int k (if b then x else y))else none
   |.string x,.string y=>some (.string (bs (if b then bl x else bl y)))
   |_,_=>none
theorem pickV_ok{b:Bool}{cx cy:Operand}{vx vy v:Value}{ρ:Operand→Value}(h:pickV b cx cy vx vy=some v)
  (hcx:∀c,cx=.const c→ρ cx=c) (hcy:∀c,cy=.const c→ρ cy=c) (hx:b=true→ρ cx=vx) (hy:b=false→ρ cy=vy):
  (if b then ρ cx else ρ cy)=v:=by
 unfold pickV at h;split at h
 ·cases h;cases b
  ·rw[if_neg (by simp),hcy _ rfl];rfl
  ·rw[if_pos rfl,hx rfl];rfl
 ·split at h
  ·cases h;cases b
   ·rw[if_neg (by simp),hy rfl];rfl
   ·rw[if_pos rfl,hcx _ rfl];rfl
  ·split at h
   ·cases h;cases b
    ·rw[if_neg (by simp),hy rfl];rfl
    ·rw[if_pos rfl,hx rfl];rfl
   ·split at h
    ·rename_i hk;cases h;have hk:=of_decide_eq_true hk;subst hk;cases b
     ·rw[if_neg (by simp),hy rfl];rfl
     ·rw[if_pos rfl,hx rfl];rfl
    ·cases h
   ·cases h;cases b
    ·rw[if_neg (by simp),hy rfl];rfl
    ·rw[if_pos rfl,hx rfl];rfl
   ·cases h
def CallOK(P:Program)(X:List Nat)(w0:World)(hs:List HB)(f:Nat)(args:List Value)(v:Value)(eff:Option (Nat×Obj)):Prop:=
 ∀W,Ww X w0 W hs→Calls P f args.toArray W fun r W'=>r=.returned v∧match eff with
  |none=>Keeps [] W W'
  |some (b,o)=>Keeps [b] W W'∧W'.heap[b]? =some o
def entersB(P:Program)(g:Nat):Bool:=
 match P.funcs[g]? with
 |some fn=>!(fn.name== "runtime.NumGoroutine")&&fn.body.isSome
 |none=>false
theorem enters_ok{P:Program}{g:Nat}(h:entersB P g=true):Proofs.Enters P g:=by
 unfold entersB at h;split at h
 ·rename_i fn hf;simp only[Bool.and_eq_true,Bool.not_eq_true']at h;obtain⟨c,hc⟩:=Option.isSome_iff_exists.1 h.2;exact Proofs.enters_of hf h.1 hc
 ·cases h
def effB(H:List HB):Option (Nat×Obj)→Option (Option (Nat×Obj))
 |none=>some none
 |some (e,o)=>match H[e]? with
  |some h=>if h.wr then some (some (h.b,o))else none
  |none=>none
def nodupN:List Nat→Bool
 |[]=>true
 |x::r=>!(r.any (Nat.beq x))&&nodupN r
def pathOf(rs:List OpR)(o:Oper):Option (List (Nat×Bool)):=
 match o.guard with
 |none=>some []
 |some (g,w)=>match rs[g]? with
  |some r=>match r.val with
   |.bool _=>some ((g,w)::r.path)
   |_=>none
  |none=>none
def CallP(P:Program)(X:List Nat)(w0:World)(hs:List HB)(f:Nat)(args:List Value)(Φ:Value→World→Prop):Prop:=StableP Φ∧∀W,Ww X w0 W hs→Calls P f args.toArray W fun r W'=>∃v,r=.returned v∧Keeps [] W W'∧Φ v W'
def CallQ(P:Program)(X:List Nat)(w0:World)(hs:List HB)(f:Value⊕(Value→World→Prop))(ql:List (Value⊕(Value→World→Prop)))(v:Value):Prop:=∀W fv vs,Ww X w0 W hs→okV f fv W→okVs ql vs W→∃g first cap,fv=.func (.func g) first cap∧Proofs.Enters P g∧Calls P g (first.toList++vs++cap.toList).toArray W fun r W'=>r=.returned v∧Keeps [] W W'
def armPath(ops:List Oper)(rs:List OpR)(p:List (Nat×Bool))(w:Bool):Operand→List (Nat×Bool)
 |.tmp t=>match wrFrom ops 0 t with
  |some j=>match rs[j]? with
   |some _=>(j,w)::p
   |none=>p
  |none=>p
 |_=>p
def pickOp(c:RCtx)(rs:List OpR)(p:List (Nat×Bool))(cc a b:Operand):Option (Value×Option (Nat×Obj)×Option Prop):=
 match envAt c.ops c.L rs p cc,envAt c.ops c.L rs (armPath c.ops rs p true cc) a,envAt c.ops c.L rs (armPath c.ops rs p false cc) b with
 |some (.bool bc),some va,some vb=>match pickV bc a b va vb with
  |some v=>some (v,none,none)
  |none=>none
 |_,_,_=>none
def autoOp(c:RCtx)(rs:List OpR)(p:List (Nat×Bool))(m:Mode)(op:Op):Option (Value×Option (Nat×Obj)×Option Prop):=
 match op with
 |.pick cc a b=>pickOp c rs p cc a b
 |_=>match pureOp c.P m (envAt c.ops c.L rs p) op with
  |some (cd,v)=>some (v,none,cd)
  |none=>none
def loadOp(c:RCtx)(rs:List OpR)(p:List (Nat×Bool))(e:Nat)(t:TypeId)(a:Operand):Option (Value×Option (Nat×Obj)×Option Prop):=
 match envAt c.ops c.L rs p a,hbAt c.H rs e with
 |some (.pointer (some ⟨b,off,none⟩)),some ⟨b',.cells cs _ _,_⟩=>match partV c.P t cs.toList off,sizeT c.P t with
  |some v,some n=>if Nat.ble (off+n) cs.toList.length then some (v,none,some (b=b'))else none
  |_,_=>none
 |_,_=>none
def storeOp(c:RCtx)(rs:List OpR)(p:List (Nat×Bool))(e:Nat)(t:TypeId)(a x:Operand):Option (Value×Option (Nat×Obj)×Option Prop):=
 match p,envAt c.ops c.L rs p a,envAt c.ops c.L rs p x,hbAt c.H rs e with
 |[],some (.pointer (some ⟨b,off,none⟩)),some v,some ⟨b',.cells cs T (0,0),true⟩=>match sizeT c.P t with
  |some n=>if Nat.beq v.cells.toList.length n&&Nat.ble (off+n) cs.toList.length&&v.cells.toList.all oneCellB then
    some (undef,some (e,.cells (cs.toList.take off++v.cells.toList++cs.toList.drop (off+n)).toArray T (0,0)),some (b=b'))
   else none
  |none=>none
 |_,_,_,_=>none
def memOp(c:RCtx)(rs:List OpR)(p:List (Nat×Bool))(e:Nat)(op:Op):Option (Value×Option (Nat×Obj)×Option Prop):=
 match op with
 |.load t a=>loadOp c rs p e t a
 |.store t a x=>storeOp c rs p e t a x
 |_=>none
def effFits(p:List (Nat×Bool)):Option (Nat×Obj)→Bool
 |none=>true
 |some _=>match p with
  |[]=>true
  |_=>false
def callCond(P:Program)(X:List Nat)(w0:World)(shut:Bool)(hs:List HB)(g:Nat)(args:List Value)(v:Value)(eb:Option (Nat×Obj)):Prop:=
 match shut with
 |true=>CallOK P X w0 hs g args v eb
 |false=>Proofs.Enters P g∧CallOK P X w0 hs g args v eb
def callOp(c:RCtx)(rs:List OpR)(p:List (Nat×Bool))(shut:Bool)(v:Value)(st:List Nat)(eff:Option (Nat×Obj))(op:Op):Option (Value×Option (Nat×Obj)×Option Prop):=
 match op with
 |.call {callee:=.value f,args,..}=>match envAt c.ops c.L rs p f,mapV (envAt c.ops c.L rs p) args.toList,stAt c.H rs st,effB c.H eff with
  |some (.func (.func g) first cap),some vs,some hs,some eb=>
   if nodupN st&&effFits p eff&&(!shut||entersB c.P g)then
    some (v,eff,some (callCond c.P c.X c.w0 shut hs g (first.toList++vs++cap.toList) v eb))
   else none
  |_,_,_,_=>none
 |_=>none
def callPOp(c:RCtx)(rs:List OpR)(p:List (Nat×Bool))(Φ:Value→World→Prop)(st:List Nat)(op:Op):Option Prop:=
 match op with
 |.call {callee:=.value f,args,..}=>match envAt c.ops c.L rs p f,mapV (envAt c.ops c.L rs p) args.toList,stAt c.H rs st with
  |some (.func (.func g) first cap),some vs,some hs=>if nodupN st&&entersB c.P g then some (CallP c.P c.X c.w0 hs g (first.toList++vs++cap.toList) Φ)else none
  |_,_,_=>none
 |_=>none
def callQOp(c:RCtx)(rs:List OpR)(p:List (Nat×Bool))(v:Value)(st:List Nat)(op:Op):Option Prop:=
 match op with
 |.call {callee:=.value f,args,..}=>match envP c.ops c.L rs p f,mapQ c.ops c.L rs p args.toList,stAt c.H rs st with
  |some fv,some vs,some hs=>if nodupN st then some (CallQ c.P c.X c.w0 hs fv vs v)else none
  |_,_,_=>none
 |_=>none
def evalAs(c:RCtx)(rs:List OpR)(i:Nat)(p:List (Nat×Bool))(op:Op):Option (OpR×Option Prop):=
 match hintAt c.hints i with
 |.auto m=>match autoOp c rs p m op with
  |some (v,eff,cd)=>some (⟨p,v,eff,none⟩,cd)
  |none=>none
 |.mem e=>match memOp c rs p e op with
  |some (v,eff,cd)=>some (⟨p,v,eff,none⟩,cd)
  |none=>none
 |.call v st eff=>match callOp c rs p true v st eff op with
  |some (v,eff,cd)=>some (⟨p,v,eff,none⟩,cd)
  |none=>none
 |.callO v st eff=>match callOp c rs p false v st eff op with
  |some (v,eff,cd)=>some (⟨p,v,eff,none⟩,cd)
  |none=>none
 |.callP Φ st=>match callPOp c rs p Φ st op with
  |some cd=>some (⟨p,undef,none,some Φ⟩,some cd)
  |none=>none
 |.callQ v st=>match callQOp c rs p v st op with
  |some cd=>some (⟨p,v,none,none⟩,some cd)
  |none=>none
def evalOp(c:RCtx)(rs:List OpR)(i:Nat)(o:Oper):Option (OpR×Option Prop):=
 match pathOf rs o with
 |none=>none
 |some p=>evalAs c rs i p o.op
def evalFrom(c:RCtx):List Oper→Nat→List OpR→Option (List OpR×List Prop)
 |[],_,rs=>some (rs,[])
 |o::r,i,rs=>match evalOp c rs i o with
  |some (x,cd)=>match evalFrom c r (i+1) (rs++[x])with
   |some (rs',cs)=>match cd with
    |some k=>some (rs',pimp rs x.path k::cs)
    |none=>some (rs',cs)
   |none=>none
  |none=>none
def conj:List Prop→Prop
 |[]=>True
 |[c]=>c
 |c::r=>c∧conj r
theorem conj_cons{c:Prop}{r:List Prop}(h:conj (c::r)):c∧conj r:=by
 cases r with
 |nil=>exact⟨h,trivial⟩
 |cons x r=>exact h
def outL(ops:List Oper)(L:List (Nat×Value))(rs:List OpR):List Nat→Option (List (Nat×Value))
 |[]=>some []
 |t::r=>match slotAt ops L rs t,outL ops L rs r with
  |some ([],v),some l=>some ((t,v)::l)
  |_,_=>none
def outH(rs:List OpR):List HB→Nat→List HB
 |[],_=>[]
 |h::r,e=>(match wE e rs 0 with
  |some (_,o)=>⟨h.b,o,h.wr⟩
  |none=>h)::outH rs r (e+1)
def evalReg(c:RCtx)(outs:List Nat):Option (List (Nat×Value)×List HB×Prop):=
 match evalFrom c c.ops 0 []with
 |some (rs,cs)=>match outL c.ops c.L rs outs with
  |some l=>some (l,outH rs c.H 0,conj cs)
  |none=>none
 |none=>none
def edgesOf(o:Oper):List Nat:=o.after.toList.filterMap fun e=>if Region.binds .any e then some e.on else none
def ancFrom:List Oper→List (List Nat)→List (List Nat)
 |[],acc=>acc
 |o::r,acc=>ancFrom r (acc++[((edgesOf o).flatMap fun e=>e::(match acc[e]? with|some l=>l|none=>[])).eraseDups])
def beforeOf(draw:Bool)(ops:List Oper):List (List Nat):=if draw then ancFrom ops []else(List.range ops.length).map List.range
def touches:Hint→List Nat
 |.auto _=>[]
 |.mem e=>[e]
 |.call _ st eff|.callO _ st eff=>match eff with
  |some (e,_)=>e::st
  |none=>st
 |.callP _ st|.callQ _ st=>st
def isP:Hint→Bool
 |.callP .. =>true
 |_=>false
def effE:Hint→Op→Option Nat
 |.mem e,.store .. =>some e
 |.call _ _ (some (e,_)),_|.callO _ _ (some (e,_)),_=>some e
 |_,_=>none
def noEff(ops:List Oper)(hints:List (Nat×Hint)):Bool:=ops.zipIdx.all fun(o,i)=>(effE (hintAt hints i) o.op).isNone
def yOf:Bool→List HB→List Nat
 |true,_=>[]
 |false,H=>H.map (·.b)
def memN(x:Nat)(l:List Nat):Bool:=l.any (Nat.beq x)
def ordered(B:List (List Nat))(i j:Nat):Bool:=Nat.beq i j||memN j (B[i]?.getD [])||memN i (B[j]?.getD [])
def okReg(ops:List Oper)(hints:List (Nat×Hint))(draw:Bool)(n:Nat):Bool:=
 let B:=beforeOf draw ops;let ix:=ops.zipIdx
 (ix.all fun(o,i)=>(edgesOf o).all fun e=>Nat.blt e i)&&
 (ix.all fun(o,i)=>match o.dst with
  |some d=>Nat.blt d n&&(match wrFrom ops 0 d with|some j=>Nat.beq j i|none=>false)
  |none=>true)&&
 (ix.all fun(o,i)=>(o.looksAt ops.toArray).all fun t=>match wrFrom ops 0 t with
  |some j=>ordered B i j
  |none=>true)&&
 (ix.all fun(o,i)=>match effE (hintAt hints i) o.op with
  |some e=>ix.all fun(o',j)=>Nat.beq i j||(!memN e (touches (hintAt hints j)))||(ordered B i j&&(effE (hintAt hints j) o'.op).all (fun e'=>!Nat.beq e' e))
  |none=>true)&&
 (ix.all fun(o,_)=>match o.op with|.select .. =>false|_=>true)&&
 (ix.all fun(o,_)=>match o.guard with
  |some (g,_)=>match ops[g]? with
   |some og=>og.dst.isSome
   |none=>false
  |none=>true)&&
 (!(ix.any fun(_,i)=>isP (hintAt hints i))||ix.all fun(o,i)=>(effE (hintAt hints i) o.op).isNone)
end Go.Vc
