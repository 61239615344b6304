/-
  A part of the proof of the laws.
-/
import Derived.Test.YtckmndepnihanaaGreatDoorVa
section
namespace Go.Vc
open Go Go.RowKit
def fin(rs:List OpR)(j:Nat):Value:=
 match rs[j]? with
 |some r=>if zv8 rs r.path then r.val else undef
 |none=>undef
end Go.Vc
end
section
namespace Go.Vc
open Go Go.RowKit
theorem jG{α:Type}{l:List α}{p:α×Nat→Bool}(h:l.zipIdx.all p=true){i:Nat}{x:α}(hx:l[i]? =some x):p (x,i)=true:=by rw[List.all_eq_true]at h;refine h (x,i) ?_;rw[List.mem_zipIdx_iff_getElem?];exact hx
section
variable {c : RCtx} {n : Nat} {B : Nat → Nat → Prop} {rs : List OpR} {S : Nat → Bool} {a : Act} {w : World} {i : Nat} {o : Oper}
end
end Go.Vc
end
section
namespace Go.Vc
open Go Go.RowKit
section
variable {c : RCtx} {n : Nat} {B : Nat → Nat → Prop} {rs : List OpR} {S : Nat → Bool} {a : Act} {w : World} {i : Nat} {o : Oper} {Q : Exit → Act → World → Prop} {K : Act → World → Prop}
theorem zaA{P:Program}{t:TypeId}{sz b off:Nat}{v:Value}{cur:Array Value}{T:TypeId}{W:World}(hs:zx P t=some sz)
  (hb:W.heap[b]? =some (.cells cur T (0,0))) (hv:v.cells.toList.length=sz) (hf:off+sz≤cur.toList.length) (h1:v.cells.toList.all yG=true):
  (storeVar t ⟨b,off,none⟩ v).run P W=.ok () (W.setRow b (cur.toList.take off++v.cells.toList++cur.toList.drop (off+sz)).toArray):=by
 have hsz:v.cells.size=sz:=by rw[←hv];simp
 have h1':∀x∈v.cells.toList,x.oneCell'=true:=by intro x hx;have:=List.all_eq_true.1 h1 x hx;cases x<;>simp_all[yG,Value.oneCell']
 have:=run_storeCells_at P b off T v.cells.toList 0 cur W hb (by rw[Nat.add_zero,hv];simpa using hf) h1';simp only[Nat.add_zero,hv]at this;simp only[storeVar,Sem.run_bind,jf hs,Result.andThen_ok,hsz,ne_eq,not_true_eq_false,if_false];simpa using this
theorem zfP{b:Nat}{cur new:Array Value}{T:TypeId}{W:World}(hb:W.heap[b]? =some (.cells cur T (0,0))):
  Keeps [b] W (W.setRow b new)∧(W.setRow b new).heap[b]? =some (.cells new T (0,0)):=by
 refine⟨⟨rfl,rfl,rfl,?_,fun k hk hx=>?_⟩,setRow_heap W b cur new T _ hb⟩
 ·simp[World.setRow]
 ·simp only[List.mem_singleton]at hx;have hx':¬b=k:=fun h=>hx h.symm
  simp[World.setRow,Array.getElem?_modify,hx']
theorem zcJ{P:Program}{t:TypeId}{sz b off:Nat}{v:Value}{cs:Array Value}{T:TypeId}{fr:Nat×Nat}{W:World}(hv:zT P t cs.toList off=some v)
  (hs:zx P t=some sz) (hf:off+sz≤cs.toList.length) (hb:W.heap[b]? =some (.cells cs T fr)):(loadVar t ⟨b,off,none⟩).run P W=.ok v W:=by
 have hcell:∀j,W.cell? ⟨b,j,none⟩=cs[j]? :=by intro j;simp[World.cell?,hb]
 have hadd:∀j,(⟨b,off,none⟩:Addr).add j=⟨b,off+j,none⟩:=by intro j;unfold Addr.add;split<;>simp_all
 unfold zT at hv;split at hv
 ·rename_i m ha hm;rw[hs]at hm;cases hm;cases hv;have hagg:(isAgg t).run P W=.ok true W:=by
   unfold zw at ha;split at ha
   ·rename_i hu;simp[isAgg,run_underlying hu]
   ·rename_i hu;simp[isAgg,run_underlying hu]
   ·cases ha
   ·cases ha
  have hl:(loadCells ⟨b,off,none⟩ ((cs.toList.drop off).take sz).length).run P W=.ok ((cs.toList.drop off).take sz).toArray W:=
   run_loadCells_list W _ _ (fun j x hj=>by
    rw[hadd,hcell];rw[List.getElem?_take]at hj;split at hj
    ·rw[List.getElem?_drop]at hj;simpa using hj
    ·cases hj)
  have hlen:((cs.toList.drop off).take sz).length=sz:=by simp at hf⊢;omega
  rw[hlen]at hl;simp only[loadVar,Sem.run_bind,hagg,Result.andThen_ok,if_true,jf hs,hl];rfl
 ·rename_i m ha hm;have hagg:(isAgg t).run P W=.ok false W:=by
   unfold zw at ha;split at ha
   ·cases ha
   ·cases ha
   ·rename_i d hd1 hd2 hu;simp only[isAgg,Sem.run_bind,run_underlying hu,Result.andThen_ok];cases d<;>simp_all
   ·cases ha
  have hx:cs[off]? =some v:=by simpa using hv
  simp only[loadVar,Sem.run_bind,hagg,Result.andThen_ok,Bool.false_eq_true,if_false];rw[run_load];simp[hcell,hx]
 ·cases hv
end
end Go.Vc
end
section
namespace Go.Vc
open Go Go.RowKit
inductive Anc(ops:List Oper):Nat→Nat→Prop where
 |one {i:Nat} {o:Oper} {j:Nat}:ops[i]? =some o→j∈edgesOf o→Anc ops i j
 |more {i:Nat} {o:Oper} {k j:Nat}:ops[i]? =some o→k∈edgesOf o→Anc ops k j→Anc ops i j
theorem Wc(ops:List Oper):∀(r:List Oper)(acc:List (List Nat)),(∀k,r[k]? =ops[acc.length+k]?)→
  (∀i l,acc[i]? =some l→∀j∈l,Anc ops i j)→∀i l,(zcs r acc)[i]? =some l→∀j∈l,Anc ops i j
 |[],acc,_,h=>h
 |o::r,acc,hr,h=>by
  refine Wc ops r _ (fun k=>?_) fun i l hl j hj=>?_
  ·have:=hr (k+1);simp only[List.getElem?_cons_succ]at this;rw[this,List.length_append,List.length_singleton];congr 1;omega
  ·rw[List.getElem?_append]at hl;split at hl
   ·exact h i l hl j hj
   ·rename_i hge;have hi:i=acc.length:=by
     rcases Nat.lt_or_ge (i-acc.length) 1 with h'|h'
     ·omega
     ·rw[List.getElem?_eq_none (by simpa using h')]at hl;cases hl
    subst hi;simp only[Nat.sub_self,List.getElem?_cons_zero,Option.some.injEq]at hl;subst hl;have ho:ops[acc.length]? =some o:=by have:=hr 0;simpa using this.symm
    rw[List.mem_eraseDups,List.mem_flatMap]at hj;obtain⟨e,he,hj⟩:=hj;rcases List.mem_cons.1 hj with rfl|hj
    ·exact .one ho he
    ·split at hj
     ·rename_i l' hl';exact .more ho he (h e l' hl' j hj)
     ·cases hj
theorem zI{ops:List Oper}{i j:Nat}(h:j∈((beforeOf true ops)[i]?.getD [])):Anc ops i j:=by
 simp only[beforeOf,if_true]at h;cases hl:(zcs ops [])[i]? with
 |none=>rw[hl]at h;cases h
 |some l=>rw[hl]at h;exact Wc ops ops [] (by simp) (by simp) i l hl j h
theorem Anc.lt{ops:List Oper}(hedge:∀(i:Nat)(o:Oper),ops[i]? =some o→∀e∈edgesOf o,e<i){i j:Nat}(h:Anc ops i j):j<i:=by
 induction h with
 |one h he=>exact hedge _ _ h _ he
 |more h he _ ih=>exact Nat.lt_trans ih (hedge _ _ h _ he)
section
variable {P : Program} {X : List Nat} {w0 : World} {n : Nat} {L Lo : List (Nat × Value)} {H Ho : List HB} {Q : Exit → Act → World → Prop} {a : Act} {w : World} {C : Prop}
end
end Go.Vc
end
section
namespace Go.Vc
open Go Go.RowKit
section
variable {P : Program} {X : List Nat} {w0 : World} {n : Nat} {L Lo : List (Nat × Value)} {H Ho : List HB} {Q : Exit → Act → World → Prop} {a : Act} {w : World} {C : Prop}
def zhW(P:Program)(T:TypeId):Option (List Value):=
 match P.info? T with
 |some i=>match i.zero with
  |some z=>some z.cells.toList
  |none=>none
 |none=>none
theorem zeH{T:TypeId}{cs:List Value}{W:World}(h:zhW P T=some cs):∃z,z.cells.toList=cs∧(zeroValue T).run P W=.ok z W:=by
 unfold zhW at h;split at h
 ·rename_i i hi;split at h
  ·rename_i z hz;cases h;exact⟨z,rfl,by simp[zeroValue,typeInfo,hi,hz]⟩
  ·cases h
 ·cases h
theorem YB{ι:Type}{c:Code}(μ:ι→Nat)(S:ι→Act→World→Prop)
  (round:∀x a w,S x a w→c.wp P (Exit.then (fun a' w'=>∃y,μ y<μ x∧S y a' w') Q) a w) (x:ι) (h0:S x a w):(Code.loop c).wp P Q a w:=by
 classical
 let m:Act→World→Nat:=fun a w=>if h:∃k,∃x,μ x=k∧S x a w then Classical.choose (exists_min h)else 0
 refine wp_loop (fun a w=>∃x,S x a w) m ⟨x,h0⟩ fun a w ⟨x,hx⟩=>?_
 have hex:∃k,∃x,μ x=k∧S x a w:=⟨μ x,x,rfl,hx⟩
 have hm:=Classical.choose_spec (exists_min hex);obtain⟨x0,h1,h2⟩:=hm.1;refine Code.wp_mono (fun e a' w' q=>?_) (round x0 a w h2);cases e with
 |normal=>
  obtain⟨y,hy,hSy⟩:=q;refine⟨⟨y,hSy⟩,?_⟩;have hey:∃k,∃x,μ x=k∧S x a' w':=⟨μ y,y,rfl,hSy⟩
  have hmy:=(Classical.choose_spec (exists_min hey)).2 (μ y) ⟨y,rfl,hSy⟩;show m a' w'<m a w;simp only[m,dif_pos hex,dif_pos hey];omega
 |_=>exact q
where
 exists_min {p:Nat→Prop} (h:∃k,p k):∃k,p k∧∀j,p j→k≤j:=by
  obtain⟨k,hk⟩:=h;induction k using Nat.strongRecOn with
  |_ k ih=>
   by_cases hex:∃j,j<k∧p j
   ·obtain⟨j,hj,hpj⟩:=hex;exact ih j hj hpj
   ·exact⟨k,hk,fun j hj=>by
     rcases Nat.lt_or_ge j k with h|h
     ·exact absurd ⟨j,h,hj⟩ hex
     ·exact h⟩
def resV(P:Program)(L:List (Nat×Value))(H:List HB):List ResultVar→List Nat→Option (List Value×List Prop)
 |[],_=>some ([],[])
 |.tmp t::r,es=>match look L t,resV P L H r es with
  |some v,some (vs,cs)=>some (v::vs,cs)
  |_,_=>none
 |.cell s t::r,e::es=>match look L s,H[e]?,resV P L H r es with
  |some (.pointer (some ⟨b,off,none⟩)),some ⟨b',.cells c _ _,_⟩,some (vs,cs)=>match zT P t c.toList off,zx P t with
   |some v,some m=>if Nat.ble (off+m) c.toList.length then some (v::vs,(b=b')::cs)else none
   |_,_=>none
  |_,_,_=>none
 |.cell _ _::_,[]=>none
def zfD:List Value→Value
 |[v]=>v
 |vs=>.tuple vs.toArray
def resSem(tmps:Array Value):ResultVar→Sem Value
 |.tmp t=>pure (tmps.getD t undef)
 |.cell s t=>do loadVar t (←asAddr (tmps.getD s undef))
theorem zcO(fn:Func)(tmps:Array Value):
  results fn tmps=(do let vs ←fn.results.mapM (resSem tmps);pure (if h:vs.size=1 then vs[0]else .tuple vs)):=by
 unfold results;congr 1
end
end Go.Vc
end
