/-
  A part of the proof of the laws.
-/
import Derived.Test.YtodebhabandljaaGreatDoorVa
section
namespace Go.Vc
open Go Go.RowKit
def fin(rs:List OpR)(j:Nat):Value:=
 match rs[j]? with
 |some r=>if zzl rs r.path then r.val else undef
 |none=>undef
end Go.Vc
end
section
namespace Go.Vc
open Go Go.RowKit
theorem jO{α:Type}{l:List α}{p:α×Nat->Bool}(h:l.zipIdx.all p=true){i:Nat}{x:α}(j:l[i]? =some x):p (x,i)=true:=by rw[mK]at h;refine h (x,i) ?_;rw[uAa];exact j
section
variable {c : RCtx} {n : Nat} {B : Nat -> Nat -> Prop} {rs : List OpR} {S : Nat -> Bool} {a : Act} {w : World} {i : Nat} {o : Oper}
end
end Go.Vc
end
section
namespace Go.Vc
open Go Go.RowKit
section
variable {c : RCtx} {n : Nat} {B : Nat -> Nat -> Prop} {rs : List OpR} {S : Nat -> Bool} {a : Act} {w : World} {i : Nat} {o : Oper} {Q : Exit -> Act -> World -> Prop} {K : Act -> World -> Prop}
theorem zbX{P:Program}{t:TypeId}{y b off:Nat}{v:Value}{j:Array Value}{T:TypeId}{W:World}(Z:zH P t=some y)
  (hb:W.heap[b]? =some (.cells j T (0,0))) (hv:v.cells.toList.length=y) (U:off+y<=j.toList.length) (O:v.cells.toList.all yI=true):
  (storeVar t ⟨b,off,none⟩ v).run P W=.ok () (W.setRow b (j.toList.take off++v.cells.toList++j.toList.drop (off+y)).toArray):=by
 have J:v.cells.size=y:=by rw[<-hv];simp
 have I:∀x∈v.cells.toList,x.oneCell'=true:=by intro x hx;have:=mK.1 O x hx;cases x<;>simp_all[yI,Value.oneCell']
 have:=run_storeCells_at P b off T v.cells.toList 0 j W hb (by rw[uAu,hv];simpa using U) I;simp only[uAu,hv]at this;simp only[storeVar,Sem.run_bind,ji Z,Result.andThen_ok,J,ne_eq,not_true_eq_false,if_false];simpa using this
theorem zhL{b:Nat}{j new:Array Value}{T:TypeId}{W:World}(J:W.heap[b]? =some (.cells j T (0,0))):
  Keeps [b] W (W.setRow b new)/\(W.setRow b new).heap[b]? =some (.cells new T (0,0)):=by
 refine⟨⟨rfl,rfl,rfl,?_,fun k hk I=>?_⟩,setRow_heap W b j new T _ J⟩
 ·simp[World.setRow]
 ·simp only[mD]at I;have y:¬b=k:=fun h=>I h.symm
  simp[World.setRow,Array.getElem?_modify,y]
theorem zeB{P:Program}{t:TypeId}{J b off:Nat}{v:Value}{cs:Array Value}{T:TypeId}{fr:Nat×Nat}{W:World}(hv:z7 P t cs.toList off=some v)
  (hs:zH P t=some J) (hf:off+J<=cs.toList.length) (hb:W.heap[b]? =some (.cells cs T fr)):(loadVar t ⟨b,off,none⟩).run P W=.ok v W:=by
 have I:∀j,W.cell? ⟨b,j,none⟩=cs[j]? :=by intro j;simp[World.cell?,hb]
 have O:∀j,(⟨b,off,none⟩:Addr).add j=⟨b,off+j,none⟩:=by intro j;unfold Addr.add;split<;>simp_all
 unfold z7 at hv;split at hv
 ·rename_i m ha hm;rw[hs]at hm;cases hm;cases hv;have y:(isAgg t).run P W=.ok true W:=by
   unfold zF at ha;split at ha
   ·rename_i Z;simp[isAgg,run_underlying Z]
   ·rename_i Z;simp[isAgg,run_underlying Z]
   ·cases ha
   ·cases ha
  have hl:(loadCells ⟨b,off,none⟩ ((cs.toList.drop off).take J).length).run P W=.ok ((cs.toList.drop off).take J).toArray W:=
   run_loadCells_list W _ _ (fun j x U=>by
    rw[O,I];rw[uAN]at U;split at U
    ·rw[mY]at U;simpa using U
    ·cases U)
  have hlen:((cs.toList.drop off).take J).length=J:=by simp at hf⊢;omega
  rw[hlen]at hl;simp only[loadVar,Sem.run_bind,y,Result.andThen_ok,if_true,ji hs,hl];rfl
 ·rename_i m ha hm;have y:(isAgg t).run P W=.ok false W:=by
   unfold zF at ha;split at ha
   ·cases ha
   ·cases ha
   ·rename_i d hd1 hd2 Z;simp only[isAgg,Sem.run_bind,run_underlying Z,Result.andThen_ok];cases d<;>simp_all
   ·cases ha
  have hx:cs[off]? =some v:=by simpa using hv
  simp only[loadVar,Sem.run_bind,y,Result.andThen_ok,mR,if_false];rw[run_load];simp[I,hx]
 ·cases hv
end
end Go.Vc
end
section
namespace Go.Vc
open Go Go.RowKit
inductive Anc(ops:List Oper):Nat->Nat->Prop where
 |one {i:Nat} {o:Oper} {j:Nat}:ops[i]? =some o->j∈edgesOf o->Anc ops i j
 |more {i:Nat} {o:Oper} {k j:Nat}:ops[i]? =some o->k∈edgesOf o->Anc ops k j->Anc ops i j
theorem zal(ops:List Oper):∀(r:List Oper)(acc:List (List Nat)),(∀k,r[k]? =ops[acc.length+k]?)->
  (∀i l,acc[i]? =some l->∀j∈l,Anc ops i j)->∀i l,(zea r acc)[i]? =some l->∀j∈l,Anc ops i j
 |[],acc,_,h=>h
 |o::r,acc,hr,h=>by
  refine zal ops r _ (fun k=>?_) fun i l I j y=>?_
  ·have:=hr (k+1);simp only[uAm]at this;rw[this,kW,mF];congr 1;omega
  ·rw[List.getElem?_append]at I;split at I
   ·exact h i l I j y
   ·rename_i hge;have U:i=acc.length:=by
     rcases Nat.lt_or_ge (i-acc.length) 1 with h'|h'
     ·omega
     ·rw[uAL (by simpa using h')]at I;cases I
    subst U;simp only[Nat.sub_self,uAw,Option.some.injEq]at I;subst I;have ho:ops[acc.length]? =some o:=by have:=hr 0;simpa using this.symm
    rw[List.mem_eraseDups,List.mem_flatMap]at y;obtain⟨e,O,y⟩:=y;rcases mS.1 y with rfl|y
    ·exact .one ho O
    ·split at y
     ·rename_i Z J;exact .more ho O (h e Z J j y)
     ·cases y
theorem zU{ops:List Oper}{i j:Nat}(h:j∈((beforeOf true ops)[i]?.getD [])):Anc ops i j:=by
 simp only[beforeOf,if_true]at h;cases hl:(zea ops [])[i]? with
 |none=>rw[hl]at h;cases h
 |some l=>rw[hl]at h;exact zal ops ops [] (by simp) (by simp) i l hl j h
theorem Anc.lt{ops:List Oper}(y:∀(i:Nat)(o:Oper),ops[i]? =some o->∀e∈edgesOf o,e<i){i j:Nat}(h:Anc ops i j):j<i:=by
 induction h with
 |one h I=>exact y _ _ h _ I
 |more h I _ J=>exact Nat.lt_trans J (y _ _ h _ I)
section
variable {P : Program} {X : List Nat} {w0 : World} {n : Nat} {L Lo : List (Nat × Value)} {H Ho : List HB} {Q : Exit -> Act -> World -> Prop} {a : Act} {w : World} {C : Prop}
end
end Go.Vc
end
section
namespace Go.Vc
open Go Go.RowKit
section
variable {P : Program} {X : List Nat} {w0 : World} {n : Nat} {L Lo : List (Nat × Value)} {H Ho : List HB} {Q : Exit -> Act -> World -> Prop} {a : Act} {w : World} {C : Prop}
def zjU(P:Program)(T:TypeId):Option (List Value):=
 match P.info? T with
 |some i=>match i.zero with
  |some z=>some z.cells.toList
  |none=>none
 |none=>none
theorem zgy{T:TypeId}{cs:List Value}{W:World}(h:zjU P T=some cs):∃z,z.cells.toList=cs/\(zeroValue T).run P W=.ok z W:=by
 unfold zjU at h;split at h
 ·rename_i i y;split at h
  ·rename_i z j;cases h;exact⟨z,rfl,by simp[zeroValue,typeInfo,y,j]⟩
  ·cases h
 ·cases h
theorem Qc{ι:Type}{c:Code}(μ:ι->Nat)(S:ι->Act->World->Prop)
  (round:∀x a w,S x a w->c.wp P (Exit.then (fun a' w'=>∃y,μ y<μ x/\S y a' w') Q) a w) (x:ι) (h0:S x a w):(Code.loop c).wp P Q a w:=by
 classical
 let m:Act->World->Nat:=fun a w=>if h:∃k,∃x,μ x=k/\S x a w then Classical.choose (exists_min h)else 0
 refine wp_loop (fun a w=>∃x,S x a w) m ⟨x,h0⟩ fun a w ⟨x,hx⟩=>?_
 have hex:∃k,∃x,μ x=k/\S x a w:=⟨μ x,x,rfl,hx⟩
 have hm:=Classical.choose_spec (exists_min hex);obtain⟨x0,h1,h2⟩:=hm.1;refine Code.wp_mono (fun e a' w' q=>?_) (round x0 a w h2);cases e with
 |normal=>
  obtain⟨y,hy,hSy⟩:=q;refine⟨⟨y,hSy⟩,?_⟩;have hey:∃k,∃x,μ x=k/\S x a' w':=⟨μ y,y,rfl,hSy⟩
  have hmy:=(Classical.choose_spec (exists_min hey)).2 (μ y) ⟨y,rfl,hSy⟩;show m a' w'<m a w;simp only[m,dif_pos hex,dif_pos hey];omega
 |_=>exact q
where
 exists_min {p:Nat->Prop} (h:∃k,p k):∃k,p k/\∀j,p j->k<=j:=by
  obtain⟨k,hk⟩:=h;induction k using Nat.strongRecOn with
  |_ k ih=>
   by_cases hex:∃j,j<k/\p j
   ·obtain⟨j,hj,hpj⟩:=hex;exact ih j hj hpj
   ·exact⟨k,hk,fun j hj=>by
     rcases Nat.lt_or_ge j k with h|h
     ·exact absurd ⟨j,h,hj⟩ hex
     ·exact h⟩
def resV(P:Program)(L:List (Nat×Value))(H:List HB):List ResultVar->List Nat->Option (List Value×List Prop)
 |[],_=>some ([],[])
 |.tmp t::r,j=>match look L t,resV P L H r j with
  |some v,some (vs,cs)=>some (v::vs,cs)
  |_,_=>none
 |.cell s t::r,e::j=>match look L s,H[e]?,resV P L H r j with
  |some (.pointer (some ⟨b,off,none⟩)),some ⟨y,.cells c _ _,_⟩,some (vs,cs)=>match z7 P t c.toList off,zH P t with
   |some v,some m=>if Nat.ble (off+m) c.toList.length then some (v::vs,(b=y)::cs)else none
   |_,_=>none
  |_,_,_=>none
 |.cell _ _::_,[]=>none
def zhy:List Value->Value
 |[v]=>v
 |vs=>.tuple vs.toArray
def resSem(tmps:Array Value):ResultVar->Sem Value
 |.tmp t=>pure (tmps.getD t undef)
 |.cell s t=>do loadVar t (<-asAddr (tmps.getD s undef))
theorem zeF(fn:Func)(tmps:Array Value):
  results fn tmps=(do let vs <-fn.results.mapM (resSem tmps);pure (if h:vs.size=1 then vs[0]else .tuple vs)):=by
 unfold results;congr 1
end
end Go.Vc
end
