/-
  A part of the proof of the laws.
-/
import Derived.Test.YtannhfbidakffaaGreatDoorVa
namespace Go.Vc
open Go Go.RowKit
def fin(rs:List OpR)(j:Nat):Value:=
 match rs[j]? with
 |some r=>if zCz rs r.path then r.val else undef
 |none=>undef
section
theorem j3{α:Type}{l:List α}{p:α×Nat->Bool}(h:l.zipIdx.all p=true){i:Nat}{x:α}(j:l[i]? =some x):p (x,i)=true:=by rw[mT]at h;refine h (x,i) ?_;rw[uAy];exact j
section
variable {c : RCtx} {n : Nat} {B : Nat -> Nat -> Prop} {rs : List OpR} {S : Nat -> Bool} {a : Act} {w : World} {i : Nat} {o : Oper}
end
end
section
section
variable {c : RCtx} {n : Nat} {B : Nat -> Nat -> Prop} {rs : List OpR} {S : Nat -> Bool} {a : Act} {w : World} {i : Nat} {o : Oper} {Q : Exit -> Act -> World -> Prop} {K : Act -> World -> Prop}
theorem zff{P:Program}{t:TypeId}{I b off:Nat}{v:Value}{j:Array Value}{T:TypeId}{W:World}(Z:zK P t=some I)
  (hb:W.heap[b]? =some (.cells j T (0,0))) (hv:v.cells.toList.length=I) (Y:off+I<=j.toList.length) (U:v.cells.toList.all qo=true):
  (storeVar t ⟨b,off,none⟩ v).run P W=.ok () (W.setRow b (j.toList.take off++v.cells.toList++j.toList.drop (off+I)).toArray):=by
 have J:v.cells.size=I:=by rw[<-hv];simp
 have O:∀x∈v.cells.toList,x.oneCell'=true:=by intro x hx;have:=mT.1 U x hx;cases x<;>simp_all[qo,Value.oneCell']
 have:=run_storeCells_at P b off T v.cells.toList 0 j W hb (by rw[uAa,hv];simpa using Y) O;simp only[uAa,hv]at this;simp only[storeVar,Sem.run_bind,jx Z,Result.andThen_ok,J,ne_eq,not_true_eq_false,if_false];simpa using this
theorem zlo{b:Nat}{j new:Array Value}{T:TypeId}{W:World}(O:W.heap[b]? =some (.cells j T (0,0))):
  Keeps [b] W (W.setRow b new)/\(W.setRow b new).heap[b]? =some (.cells new T (0,0)):=by
 refine⟨⟨rfl,rfl,rfl,?_,fun k hk J=>?_⟩,setRow_heap W b j new T _ O⟩
 ·simp[World.setRow]
 ·simp only[mL]at J;have I:¬b=k:=fun h=>J h.symm
  simp[World.setRow,Array.getElem?_modify,I]
theorem zhj{P:Program}{t:TypeId}{O b off:Nat}{v:Value}{cs:Array Value}{T:TypeId}{fr:Nat×Nat}{W:World}(hv:jg P t cs.toList off=some v)
  (hs:zK P t=some O) (hf:off+O<=cs.toList.length) (hb:W.heap[b]? =some (.cells cs T fr)):(loadVar t ⟨b,off,none⟩).run P W=.ok v W:=by
 have I:∀j,W.cell? ⟨b,j,none⟩=cs[j]? :=by intro j;simp[World.cell?,hb]
 have Z:∀j,(⟨b,off,none⟩:Addr).add j=⟨b,off+j,none⟩:=by intro j;unfold Addr.add;split<;>simp_all
 unfold jg at hv;split at hv
 ·rename_i m ha hm;rw[hs]at hm;cases hm;cases hv;have J:(isAgg t).run P W=.ok true W:=by
   unfold zB at ha;split at ha
   ·rename_i U;simp[isAgg,run_underlying U]
   ·rename_i U;simp[isAgg,run_underlying U]
   ·cases ha
   ·cases ha
  have hl:(loadCells ⟨b,off,none⟩ ((cs.toList.drop off).take O).length).run P W=.ok ((cs.toList.drop off).take O).toArray W:=
   run_loadCells_list W _ _ (fun j x hj=>by
    rw[Z,I];rw[List.getElem?_take]at hj;split at hj
    ·rw[nI]at hj;simpa using hj
    ·cases hj)
  have Y:((cs.toList.drop off).take O).length=O:=by simp at hf⊢;omega
  rw[Y]at hl;simp only[loadVar,Sem.run_bind,J,Result.andThen_ok,if_true,jx hs,hl];rfl
 ·rename_i m ha hm;have J:(isAgg t).run P W=.ok false W:=by
   unfold zB at ha;split at ha
   ·cases ha
   ·cases ha
   ·rename_i d hd1 hd2 U;simp only[isAgg,Sem.run_bind,run_underlying U,Result.andThen_ok];cases d<;>simp_all
   ·cases ha
  have hx:cs[off]? =some v:=by simpa using hv
  simp only[loadVar,Sem.run_bind,J,Result.andThen_ok,nA,if_false];rw[run_load];simp[I,hx]
 ·cases hv
end
end
section
inductive Anc(ops:List Oper):Nat->Nat->Prop where
 |one {i:Nat} {o:Oper} {j:Nat}:ops[i]? =some o->j∈edgesOf o->Anc ops i j
 |more {i:Nat} {o:Oper} {k j:Nat}:ops[i]? =some o->k∈edgesOf o->Anc ops k j->Anc ops i j
theorem zdf(ops:List Oper):∀(r:List Oper)(acc:List (List Nat)),(∀k,r[k]? =ops[acc.length+k]?)->
  (∀i l,acc[i]? =some l->∀j∈l,Anc ops i j)->∀i l,(zgP r acc)[i]? =some l->∀j∈l,Anc ops i j
 |[],acc,_,h=>h
 |o::r,acc,hr,h=>by
  refine zdf ops r _ (fun k=>?_) fun i l J j I=>?_
  ·have:=hr (k+1);simp only[uAp]at this;rw[this,mO,uAz];congr 1;omega
  ·rw[List.getElem?_append]at J;split at J
   ·exact h i l J j I
   ·rename_i Y;have hi:i=acc.length:=by
     rcases Nat.lt_or_ge (i-acc.length) 1 with h'|h'
     ·omega
     ·rw[uAo (by simpa using h')]at J;cases J
    subst hi;simp only[Nat.sub_self,uAB,Option.some.injEq]at J;subst J;have ho:ops[acc.length]? =some o:=by have:=hr 0;simpa using this.symm
    rw[List.mem_eraseDups,List.mem_flatMap]at I;obtain⟨e,U,I⟩:=I;rcases nB.1 I with rfl|I
    ·exact .one ho U
    ·split at I
     ·rename_i Z O;exact .more ho U (h e Z O j I)
     ·cases I
theorem zV{ops:List Oper}{i j:Nat}(h:j∈((beforeOf true ops)[i]?.getD [])):Anc ops i j:=by
 simp only[beforeOf,if_true]at h;cases hl:(zgP ops [])[i]? with
 |none=>rw[hl]at h;cases h
 |some l=>rw[hl]at h;exact zdf ops ops [] sI sI i l hl j h
theorem Anc.lt{ops:List Oper}(I:∀(i:Nat)(o:Oper),ops[i]? =some o->∀e∈edgesOf o,e<i){i j:Nat}(h:Anc ops i j):j<i:=by
 induction h with
 |one h J=>exact I _ _ h _ J
 |more h J _ O=>exact Nat.lt_trans O (I _ _ h _ J)
section
variable {P : Program} {X : List Nat} {w0 : World} {n : Nat} {L Lo : List (Nat × Value)} {H Ho : List HB} {Q : Exit -> Act -> World -> Prop} {a : Act} {w : World} {C : Prop}
end
end
section
section
variable {P : Program} {X : List Nat} {w0 : World} {n : Nat} {L Lo : List (Nat × Value)} {H Ho : List HB} {Q : Exit -> Act -> World -> Prop} {a : Act} {w : World} {C : Prop}
def znr(P:Program)(T:TypeId):Option (List Value):=
 match P.info? T with
 |some i=>match i.zero with
  |some z=>some z.cells.toList
  |none=>none
 |none=>none
theorem zjY{T:TypeId}{cs:List Value}{W:World}(h:znr P T=some cs):∃z,z.cells.toList=cs/\(zeroValue T).run P W=.ok z W:=by
 unfold znr at h;split at h
 ·rename_i i hi;split at h
  ·rename_i z j;cases h;exact⟨z,rfl,by simp[zeroValue,typeInfo,hi,j]⟩
  ·cases h
 ·cases h
theorem KZ{ι:Type}{c:Code}(μ:ι->Nat)(S:ι->Act->World->Prop)
  (round:∀x a w,S x a w->c.wp P (Exit.then (fun a' w'=>∃y,μ y<μ x/\S y a' w') Q) a w) (x:ι) (h0:S x a w):(Code.loop c).wp P Q a w:=by
 classical
 let m:Act->World->Nat:=fun a w=>if h:∃k,∃x,μ x=k/\S x a w then Classical.choose (exists_min h)else 0
 refine wp_loop (fun a w=>∃x,S x a w) m ⟨x,h0⟩ fun a w ⟨x,hx⟩=>?_
 have hex:∃k,∃x,μ x=k/\S x a w:=⟨μ x,x,rfl,hx⟩
 have hm:=Classical.choose_spec (exists_min hex);obtain⟨x0,h1,h2⟩:=hm.1;refine Code.wp_mono (fun e a' w' q=>?_) (round x0 a w h2);cases e with
 |normal=>
  obtain⟨y,hy,hSy⟩:=q;refine⟨⟨y,hSy⟩,?_⟩;have hey:∃k,∃x,μ x=k/\S x a' w':=⟨μ y,y,rfl,hSy⟩
  have hmy:=(Classical.choose_spec (exists_min hey)).2 (μ y) ⟨y,rfl,hSy⟩;show m a' w'<m a w;simp only[m,dif_pos hex,dif_pos hey];omega
 |_=>exact q
where
 exists_min {p:Nat->Prop} (h:∃k,p k):∃k,p k/\∀j,p j->k<=j:=by
  obtain⟨k,hk⟩:=h;induction k using Nat.strongRecOn with
  |_ k ih=>
   by_cases hex:∃j,j<k/\p j
   ·obtain⟨j,hj,hpj⟩:=hex;exact ih j hj hpj
   ·exact⟨k,hk,fun j hj=>by
     rcases Nat.lt_or_ge j k with h|h
     ·exact absurd ⟨j,h,hj⟩ hex
     ·exact h⟩
def resV(P:Program)(L:List (Nat×Value))(H:List HB):List ResultVar->List Nat->Option (List Value×List Prop)
 |[],_=>some ([],[])
 |.tmp t::r,j=>match look L t,resV P L H r j with
  |some v,some (vs,cs)=>some (v::vs,cs)
  |_,_=>none
 |.cell s t::r,e::j=>match look L s,H[e]?,resV P L H r j with
  |some (.pointer (some ⟨b,off,none⟩)),some ⟨I,.cells c _ _,_⟩,some (vs,cs)=>match jg P t c.toList off,zK P t with
   |some v,some m=>if Nat.ble (off+m) c.toList.length then some (v::vs,(b=I)::cs)else none
   |_,_=>none
  |_,_,_=>none
 |.cell _ _::_,[]=>none
def zlc:List Value->Value
 |[v]=>v
 |vs=>.tuple vs.toArray
def resSem(tmps:Array Value):ResultVar->Sem Value
 |.tmp t=>pure (tmps.getD t undef)
 |.cell s t=>do loadVar t (<-asAddr (tmps.getD s undef))
theorem zhl(fn:Func)(tmps:Array Value):
  results fn tmps=(do let vs <-fn.results.mapM (resSem tmps);pure (if h:vs.size=1 then vs[0]else .tuple vs)):=by
 unfold results;congr 1
end
end
end Go.Vc
