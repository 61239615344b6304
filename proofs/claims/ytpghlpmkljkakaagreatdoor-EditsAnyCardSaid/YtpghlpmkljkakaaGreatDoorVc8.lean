/-
  A part of the proof of the laws on edits.
-/
import Derived.Test.YtpghlpmkljkakaaGreatDoorVc7
namespace Go.Vc
open Go Go.RowKit
def rebase(k:Nat)(o:Oper):Oper:=
 {dst:=o.dst,op:=o.op,type:=o.type,pos:=o.pos,after:= #[],guard:=match o.guard with
  |some (g,w)=>some (g-k,w)
  |none=>none}
def subOps(ops:List Oper)(k m:Nat):List Oper:=((ops.drop k).take m).map (rebase k)
def guardsIn(ops:List Oper)(k m:Nat):Bool:=
 ((ops.drop k).take m).zipIdx.all fun(o,i)=>match o.guard with
  |some (g,_)=>Nat.ble k g&&Nat.blt g (k+i)
  |none=>true
section
variable {P : Program} {X : List Nat} {w0 : World} {n : Nat} {L Lo : List (Nat × Value)} {H Ho : List HB} {Q : Exit → Act → World → Prop} {a : Act} {w : World} {C : Prop}
theorem subOps_get{ops:List Oper}{k m i:Nat}{o':Oper}(h:(subOps ops k m)[i]? =some o'):∃o,ops[k+i]? =some o∧i<m∧o'=rebase k o:=by
 unfold subOps at h;simp only[List.getElem?_map,List.getElem?_take,List.getElem?_drop]at h;split at h
 ·rename_i hlt;cases ho:ops[k+i]? with
  |none=>simp[ho]at h
  |some o=>simp only[ho,Option.map_some,Option.some.injEq]at h;exact⟨o,rfl,hlt,h.symm⟩
 ·cases h
theorem wpOp_rebase{ops:List Oper}{k m i:Nat}(hg:guardsIn ops k m=true){o:Oper}(ho:ops[k+i]? =some o)(hi:i<m){K:Act→World→Prop}
  (h:wpOp P (subOps ops k m).toArray Q i K a w):wpOp P ops.toArray Q (k+i) K a w:=by
 have hs:(subOps ops k m)[i]? =some (rebase k o):=by unfold subOps;simp[List.getElem?_map,List.getElem?_drop,hi,ho]
 have hs':(subOps ops k m).toArray[i]? =some (rebase k o):=by simpa using hs
 have ho':ops.toArray[k+i]? =some o:=by simpa using ho
 unfold wpOp at*
 simp only[hs',ho']at*
 have hgi:match o.guard with|some (g,_)=>k≤g∧g<k+i|none=>True:=by
  have:=zipIdx_mem hg (i:=i) (x:=o) (by simp[List.getElem?_drop,hi,ho]);cases hgo:o.guard with
  |none=>trivial
  |some gw=>
   simp only[hgo,Bool.and_eq_true]at this;have h2:gw.1+1≤k+i:=by simpa[Nat.blt]using this.2
   exact⟨Nat.le_of_ble_eq_true this.1,h2⟩
 have hw:Region.wanted (rebase k o) (yielded (subOps ops k m).toArray a.tmps)=Region.wanted o (yielded ops.toArray a.tmps):=by
  unfold Region.wanted rebase;cases hgo:o.guard with
  |none=>rfl
  |some gw=>
   obtain⟨g,wt⟩:=gw;rw[hgo]at hgi;simp only at hgi⊢;have hy:yielded (subOps ops k m).toArray a.tmps (g-k)=yielded ops.toArray a.tmps g:=by
    unfold yielded;have e:((subOps ops k m).toArray[g-k]?).bind (·.dst)=(ops.toArray[g]?).bind (·.dst):=by
     simp only[List.getElem?_toArray];unfold subOps;simp only[List.getElem?_map,List.getElem?_take,List.getElem?_drop];rw[if_pos (by omega),show k+(g-k)=g by omega];cases ops[g]? with
     |none=>rfl
     |some og=>rfl
    rw[e]
   rw[hy]
 rw[hw]at h;exact h
theorem seg{ops:List Oper}(k m r:Nat){hints:List (Nat×Hint)}{outs:List Nat}(hS:Sat n a L)(hW:Ww X w0 w H)
  (hg:guardsIn ops k m=true) (hlen:Nat.ble (k+m) ops.length=true)
  (nf:Bool) (hok:okReg (subOps ops k m) hints false n=true) (hnf:noEff (subOps ops k m) hints=nf) (hev:evalReg ⟨P,X,w0,w,yOf nf H,subOps ops k m,L,H,hints⟩ outs=some (Lo,Ho,C)) (hC:C)
  (hQ:∀a' w',Sat n a' Lo→Ww X w0 w' Ho→Keeps (yOf nf H) w w'→wpOps P ops.toArray Q (List.range' (k+m) r) a' w'):wpOps P ops.toArray Q (List.range' k (m+r)) a w:=by
 obtain⟨rs,R,hL,hH⟩:=reckoned hok hnf rfl hev hC;generalize hws:w=ws at hev R hQ;have hlen':(subOps ops k m).length=m:=by have:=Nat.le_of_ble_eq_true hlen;simp[subOps];omega
 have key:∀(d i:Nat)(a:Act)(w:World),i+d=m→Inv ⟨P,X,w0,ws,yOf nf H,subOps ops k m,L,H,hints⟩ n rs (fun j=>Nat.blt j i) a w→
   wpOps P ops.toArray Q (List.range' (k+i) (d+r)) a w:=by
  intro d;induction d with
  |zero=>
   intro i a w hi I;have hall:∀j,j<(subOps ops k m).length→Nat.blt j i=true:=by
    intro j hj;rw[hlen']at hj;have:j+1≤i:=by omega
    simpa[Nat.blt]using this
   have h1:=Inv.out R I hall hL;have h2:=Inv.outH R I hall;rw[hH]at h2;rw[Nat.zero_add,show i=m by omega];exact hQ a w h1 h2 I.since
  |succ d ih=>
   intro i a w hi I;have hilt:i<(subOps ops k m).length:=by rw[hlen'];omega
   obtain⟨o,ho,him,hoe⟩:=subOps_get (List.getElem?_eq_getElem hilt);rw[show d+1+r=(d+r)+1 by omega,List.range'_succ,wpOps_cons];refine wpOp_rebase hg ho him ?_;refine R.step I (List.getElem?_eq_getElem hilt) ?_ (fun j hb=>?_) (fun j hb=>?_) fun a' w' I'=>?_
   ·cases hb:Nat.blt i i with
    |false=>rfl
    |true=>
     have:i+1≤i:=by simpa[Nat.blt]using hb
     omega
   ·have h1:j+1≤i:=before_seq hb;simpa[Nat.blt]using h1
   ·have h1:=before_seq hb;cases hb':Nat.blt j i with
    |false=>rfl
    |true=>
     have:j+1≤i:=by simpa[Nat.blt]using hb'
     omega
   ·rw[show k+i+1=k+(i+1)by omega];refine ih (i+1) a' w' (by omega) (I'.congr fun j=>?_);rw[Bool.eq_iff_iff];simp only[Bool.or_eq_true];constructor
    ·rintro(h|h)
     ·have:j+1≤i:=by simpa[Nat.blt]using h
      have:j+1≤i+1:=by omega
      simpa[Nat.blt]using this
     ·have:=Nat.eq_of_beq_eq_true h;have:j+1≤i+1:=by omega
      simpa[Nat.blt]using this
    ·intro h;have h1:j+1≤i+1:=by simpa[Nat.blt]using h
     by_cases hji:j=i
     ·right;simp[hji]
     ·left;have:j+1≤i:=by omega
      simpa[Nat.blt]using this
 have:=key m 0 a ws (by omega) ((Inv.start hS (hws▸hW:Ww X w0 ws H) (Keeps.refl _ _)).congr fun j=>rfl);simpa using this
def delL(L:List (Nat×Value))(d:Nat):List (Nat×Value):=
 match L with
 |[]=>[]
 |(s,v)::r=>match Nat.beq s d with
  |true=>delL r d
  |false=>(s,v)::delL r d
def putL(L:List (Nat×Value))(d:Nat)(v:Value):List (Nat×Value):=(d,v)::delL L d
theorem mem_delL{d:Nat}{x:Nat×Value}:∀{L:List (Nat×Value)},x∈delL L d→x∈L∧x.1≠d
 |[],h=>by cases h
 |(s,v)::r,h=>by
  simp only[delL]at h;split at h
  ·have:=mem_delL h;exact⟨List.mem_cons_of_mem _ this.1,this.2⟩
  ·rename_i hb;rcases List.mem_cons.1 h with rfl|h
   ·refine⟨List.mem_cons_self,fun he=>?_⟩;simp only at he;subst he;simp at hb
   ·have:=mem_delL h;exact⟨List.mem_cons_of_mem _ this.1,this.2⟩
theorem Sat.put(hS:Sat n a L){d:Nat}(hd:Nat.blt d n=true)(v:Value):Sat n (a.put (some d) v) (putL L d v):=by
 have hd':d+1≤n:=by simpa[Nat.blt]using hd
 refine⟨hS.defers,by simpa[Act.put]using hS.size,fun x hx=>?_⟩;rcases List.mem_cons.1 hx with rfl|hx
 ·have:d<a.tmps.size:=by rw[hS.size];exact hd'
  simp[Act.put,this]
 ·have:=mem_delL hx;have hne:d≠x.1:=fun h=>this.2 h.symm
  have h1:(a.put (some d) v).tmps.getD x.1 undef=a.tmps.getD x.1 undef:=by simp[Act.put,Array.getElem?_setIfInBounds_ne hne]
  rw[h1];exact hS.has x this.1
def envL(L:List (Nat×Value)):Operand→Option Value
 |.const v=>some v
 |.global g=>some (.pointer (some ⟨g,0,none⟩))
 |.func f=>some (.func (.func f) #[] #[])
 |.tmp t=>look L t
theorem Sat.env(hS:Sat n a L){x:Operand}{v:Value}(h:envL L x=some v):a.eval x=v:=by
 cases x with
 |const v=>simp only[envL,Option.some.injEq]at h;exact h
 |global g=>simp only[envL,Option.some.injEq]at h;exact h
 |func f=>simp only[envL,Option.some.injEq]at h;exact h
 |tmp t=>exact hS.look h
def zeroC(P:Program)(T:TypeId):Option (List Value):=
 match P.info? T with
 |some i=>match i.zero with
  |some z=>some z.cells.toList
  |none=>none
 |none=>none
theorem run_zeroC{T:TypeId}{cs:List Value}{W:World}(h:zeroC P T=some cs):∃z,z.cells.toList=cs∧(zeroValue T).run P W=.ok z W:=by
 unfold zeroC at h;split at h
 ·rename_i i hi;split at h
  ·rename_i z hz;cases h;exact⟨z,rfl,by simp[zeroValue,typeInfo,hi,hz]⟩
  ·cases h
 ·cases h
theorem wp_loop_idx{ι:Type}{c:Code}(μ:ι→Nat)(S:ι→Act→World→Prop)
  (round:∀x a w,S x a w→c.wp P (Exit.then (fun a' w'=>∃y,μ y<μ x∧S y a' w') Q) a w) (x:ι) (h0:S x a w):(Code.loop c).wp P Q a w:=by
 classical
 let m:Act→World→Nat:=fun a w=>if h:∃k,∃x,μ x=k∧S x a w then Classical.choose (exists_min h)else 0
 refine wp_loop (fun a w=>∃x,S x a w) m ⟨x,h0⟩ fun a w ⟨x,hx⟩=>?_
 have hex:∃k,∃x,μ x=k∧S x a w:=⟨μ x,x,rfl,hx⟩
 have hm:=Classical.choose_spec (exists_min hex);obtain⟨x0,h1,h2⟩:=hm.1;refine Code.wp_mono (fun e a' w' q=>?_) (round x0 a w h2);cases e with
 |normal=>
  obtain⟨y,hy,hSy⟩:=q;refine⟨⟨y,hSy⟩,?_⟩;have hey:∃k,∃x,μ x=k∧S x a' w':=⟨μ y,y,rfl,hSy⟩
  have hmy:=(Classical.choose_spec (exists_min hey)).2 (μ y) ⟨y,rfl,hSy⟩;show m a' w'<m a w;simp only[m,dif_pos hex,dif_pos hey];omega
 |_=>exact q
where
 exists_min {p:Nat→Prop} (h:∃k,p k):∃k,p k∧∀j,p j→k≤j:=by
  obtain⟨k,hk⟩:=h;induction k using Nat.strongRecOn with
  |_ k ih=>
   by_cases hex:∃j,j<k∧p j
   ·obtain⟨j,hj,hpj⟩:=hex;exact ih j hj hpj
   ·exact⟨k,hk,fun j hj=>by
     rcases Nat.lt_or_ge j k with h|h
     ·exact absurd ⟨j,h,hj⟩ hex
     ·exact h⟩
def argL:Nat→List Value→List (Nat×Value)
 |_,[]=>[]
 |i,v::r=>(i,v)::argL (i+1) r
theorem argL_mem:∀(l:List Value)(i:Nat)(x:Nat×Value),x∈argL i l→i≤x.1∧l[x.1-i]? =some x.2
 |[],_,_,h=>by cases h
 |v::r,i,x,h=>by
  rcases List.mem_cons.1 h with rfl|h
  ·simp
  ·have:=argL_mem r (i+1) x h;refine⟨by omega,?_⟩;rw[show x.1-i=(x.1-(i+1))+1 by omega];simpa using this.2
theorem enter{f:FuncId}{fn:Func}{c:Code}{args:List Value}{R:Ending→World→Prop}(hf:P.funcs[f]? =some fn)(hb:fn.body=some c)(hn:fn.ntmps=n)
  (hl:Nat.ble args.length n=true) (h:∀a,Sat n a (argL 0 args)→c.wp P (bodyPost P fn R) a w):Calls P f args.toArray w R:=by
 have hle:=Nat.le_of_ble_eq_true hl;refine calls_of_wp hf hb (h _ ⟨rfl,?_,fun x hx=>?_⟩)
 ·simp;omega
 ·have:=argL_mem args 0 x hx;rw[Nat.sub_zero]at this;have hlt:=(List.getElem?_eq_some_iff.1 this.2).1;have h2:args.toArray[x.1]? =some x.2:=by simpa using this.2
  simp[Array.getElem?_append,hlt];have h3:=(List.getElem?_eq_some_iff.1 this.2).2;exact h3
def resV(P:Program)(L:List (Nat×Value))(H:List HB):List ResultVar→List Nat→Option (List Value×List Prop)
 |[],_=>some ([],[])
 |.tmp t::r,es=>match look L t,resV P L H r es with
  |some v,some (vs,cs)=>some (v::vs,cs)
  |_,_=>none
 |.cell s t::r,e::es=>match look L s,H[e]?,resV P L H r es with
  |some (.pointer (some ⟨b,off,none⟩)),some ⟨b',.cells c _ _,_⟩,some (vs,cs)=>match partV P t c.toList off,sizeT P t with
   |some v,some m=>if Nat.ble (off+m) c.toList.length then some (v::vs,(b=b')::cs)else none
   |_,_=>none
  |_,_,_=>none
 |.cell _ _::_,[]=>none
def tupleOf:List Value→Value
 |[v]=>v
 |vs=>.tuple vs.toArray
def resSem(tmps:Array Value):ResultVar→Sem Value
 |.tmp t=>pure (tmps.getD t undef)
 |.cell s t=>do loadVar t (←asAddr (tmps.getD s undef))
theorem results_eq(fn:Func)(tmps:Array Value):
  results fn tmps=(do let vs ←fn.results.mapM (resSem tmps);pure (if h:vs.size=1 then vs[0]else .tuple vs)):=by
 unfold results;congr 1
end
end Go.Vc
