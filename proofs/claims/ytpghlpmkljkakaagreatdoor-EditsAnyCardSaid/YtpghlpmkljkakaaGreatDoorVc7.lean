/-
  A part of the proof of the laws on edits.
-/
import Derived.Test.YtpghlpmkljkakaaGreatDoorVc6
namespace Go.Vc
open Go Go.RowKit
inductive Anc(ops:List Oper):Nat→Nat→Prop where
 |one {i:Nat} {o:Oper} {j:Nat}:ops[i]? =some o→j∈edgesOf o→Anc ops i j
 |more {i:Nat} {o:Oper} {k j:Nat}:ops[i]? =some o→k∈edgesOf o→Anc ops k j→Anc ops i j
theorem ancFrom_spec(ops:List Oper):∀(r:List Oper)(acc:List (List Nat)),(∀k,r[k]? =ops[acc.length+k]?)→
  (∀i l,acc[i]? =some l→∀j∈l,Anc ops i j)→∀i l,(ancFrom r acc)[i]? =some l→∀j∈l,Anc ops i j
 |[],acc,_,h=>h
 |o::r,acc,hr,h=>by
  refine ancFrom_spec ops r _ (fun k=>?_) fun i l hl j hj=>?_
  ·have:=hr (k+1);simp only[List.getElem?_cons_succ]at this;rw[this,List.length_append,List.length_singleton];congr 1;omega
  ·rw[List.getElem?_append]at hl;split at hl
   ·exact h i l hl j hj
   ·rename_i hge;have hi:i=acc.length:=by
     rcases Nat.lt_or_ge (i-acc.length) 1 with h'|h'
     ·omega
     ·rw[List.getElem?_eq_none (by simpa using h')]at hl;cases hl
    subst hi;simp only[Nat.sub_self,List.getElem?_cons_zero,Option.some.injEq]at hl;subst hl;have ho:ops[acc.length]? =some o:=by have:=hr 0;simpa using this.symm
    rw[List.mem_eraseDups,List.mem_flatMap]at hj;obtain⟨e,he,hj⟩:=hj;rcases List.mem_cons.1 hj with rfl|hj
    ·exact .one ho he
    ·split at hj
     ·rename_i l' hl';exact .more ho he (h e l' hl' j hj)
     ·cases hj
theorem before_draw{ops:List Oper}{i j:Nat}(h:j∈((beforeOf true ops)[i]?.getD [])):Anc ops i j:=by
 simp only[beforeOf,if_true]at h;cases hl:(ancFrom ops [])[i]? with
 |none=>rw[hl]at h;cases h
 |some l=>rw[hl]at h;exact ancFrom_spec ops ops [] (by simp) (by simp) i l hl j h
theorem before_seq{ops:List Oper}{i j:Nat}(h:j∈((beforeOf false ops)[i]?.getD [])):j<i:=by
 simp only[beforeOf,Bool.false_eq_true,if_false]at h;simp only[List.getElem?_map]at h;by_cases hi:i<ops.length
 ·simp[hi]at h;exact h
 ·rw[List.getElem?_eq_none (by simp;omega)]at h;cases h
theorem Anc.lt{ops:List Oper}(hedge:∀(i:Nat)(o:Oper),ops[i]? =some o→∀e∈edgesOf o,e<i){i j:Nat}(h:Anc ops i j):j<i:=by
 induction h with
 |one h he=>exact hedge _ _ h _ he
 |more h he _ ih=>exact Nat.lt_trans ih (hedge _ _ h _ he)
section
variable {P : Program} {X : List Nat} {w0 : World} {n : Nat} {L Lo : List (Nat × Value)} {H Ho : List HB} {Q : Exit → Act → World → Prop} {a : Act} {w : World} {C : Prop}
theorem reckoned{c:RCtx}{draw nf:Bool}{outs:List Nat}(hok:okReg c.ops c.hints draw n=true)(hnf:noEff c.ops c.hints=nf)(hY:c.Y=yOf nf c.H)(hev:evalReg c outs=some (Lo,Ho,C))(hC:C):
  ∃rs,Reckoned c n (fun i j=>j∈((beforeOf draw c.ops)[i]?.getD [])) rs∧outL c.ops c.L rs outs=some Lo∧outH rs c.H 0=Ho:=by
 unfold evalReg at hev;split at hev
 ·rename_i rs cs hr;split at hev
  ·rename_i l hl;simp only[Option.some.injEq,Prod.mk.injEq]at hev;obtain⟨rfl,rfl,rfl⟩:=hev;obtain⟨h1,_,h3⟩:=evalFrom_spec c c.ops 0 [] rs cs rfl hr;have hk:=okReg_ok hok;refine⟨rs,⟨hk,fun i j hb=>?_,by simpa using h1,fun i o e h ho he hh=>?_,fun i o ho=>?_⟩,hl,rfl⟩
   ·cases draw with
    |true=>exact (before_draw hb).lt hk.edge
    |false=>exact before_seq hb
   ·rw[hY];cases nf with
    |true=>have:=zipIdx_mem hnf ho;simp[he]at this
    |false=>exact List.mem_map_of_mem (List.mem_of_getElem? hh)
   ·obtain⟨x,cd,e1,e2,e3⟩:=h3 i o ho;rw[Nat.zero_add]at e1 e2 e3;exact⟨x,cd,e1,e2,fun k hk=>e3 k hk hC⟩
  ·cases hev
 ·cases hev
theorem Inv.out{c:RCtx}{B:Nat→Nat→Prop}{rs:List OpR}{S:Nat→Bool}(R:Reckoned c n B rs)(I:Inv c n rs S a w)(hall:∀j,j<c.ops.length→S j=true):
  ∀{outs:List Nat}{Lo:List (Nat×Value)},outL c.ops c.L rs outs=some Lo→Sat n a Lo
 |[],Lo,h=>by simp only[outL,Option.some.injEq]at h;subst h;exact⟨I.defers,I.size,by simp⟩
 |t::r,Lo,h=>by
  simp only[outL]at h;split at h
  ·rename_i v l hv hl;cases h;have ih:=Inv.out R I hall hl;refine⟨I.defers,I.size,fun x hx=>?_⟩;rcases List.mem_cons.1 hx with rfl|hx
   ·refine I.slots t v ?_;unfold slotAt at hv;unfold slotS;cases hw:wrFrom c.ops 0 t with
    |none=>
     simp only[hw]at hv⊢;split at hv
     ·rename_i v' hl;cases hv;exact hl
     ·cases hv
    |some j=>
     obtain⟨_,oj,hoj,_⟩:=wrFrom_spec c.ops 0 t j hw;rw[Nat.sub_zero]at hoj;have hj:=(List.getElem?_eq_some_iff.1 hoj).1;have hjr:j<rs.length:=by rw[R.len];exact hj
     simp only[hw,List.getElem?_eq_getElem hjr]at hv⊢;split at hv
     ·rename_i hpr;simp only[Option.some.injEq,Prod.mk.injEq]at hv;have hpa:prAt rs j=none:=by simp[prAt,hjr,hpr]
      rw[hall j hj];simp[hpa,fin,hjr,hv.1,hv.2,pathB]
     ·cases hv
   ·exact ih.has x hx
  ·cases h
theorem outH_eq(rs:List OpR)(S:Nat→Bool)(hall:∀j,j<rs.length→S j=true):∀(H:List HB)(e:Nat),
  outH rs H e=H.mapIdx fun k h=>hbS rs S (e+k) h
 |[],_=>rfl
 |h::r,e=>by
  rw[List.mapIdx_cons];simp only[outH];congr 1
  ·unfold hbS;rw[Nat.add_zero];cases hw:wE e rs 0 with
   |none=>rfl
   |some jo=>obtain⟨j,o⟩:=jo;obtain⟨_,r',hr,_⟩:=wE_spec e rs 0 j o hw;rw[Nat.sub_zero]at hr;simp only[hall j (List.getElem?_eq_some_iff.1 hr).1,if_true]
  ·rw[outH_eq rs S hall r (e+1)];congr 1;funext k h';rw[show e+1+k=e+(k+1)by omega]
theorem Inv.outH{c:RCtx}{B:Nat→Nat→Prop}{rs:List OpR}{S:Nat→Bool}(R:Reckoned c n B rs)(I:Inv c n rs S a w)(hall:∀j,j<c.ops.length→S j=true):
  Ww c.X c.w0 w (Vc.outH rs c.H 0):=by
 rw[outH_eq rs S (fun j hj=>hall j (by rwa [R.len]at hj))];simp only[Nat.zero_add];exact I.mem
theorem Inv.start{c:RCtx}{rs:List OpR}(hS:Sat n a c.L)(hW:Ww c.X c.w0 w c.H)(hs:Keeps c.Y c.ws w):Inv c n rs (fun _=>false) a w:=by
 refine⟨hS.defers,hS.size,fun t v hv=>hS.look ?_,?_,fun t Φ h=>?_,hs⟩
 ·unfold slotS at hv;split at hv
  ·simpa using hv
  ·exact hv
 ·have:HS rs (fun _=>false) c.H=c.H:=by
   unfold HS;apply List.ext_getElem?;intro k;simp only[List.getElem?_mapIdx];cases c.H[k]? with
   |none=>rfl
   |some h=>simp only[Option.map_some,hbS];split<;>simp
  rw[this];exact hW
 ·exfalso;unfold predS at h;split at h
  ·simp at h
  ·cases h
theorem Inv.congr{c:RCtx}{rs:List OpR}{S S':Nat→Bool}(h:∀j,S j=S' j)(I:Inv c n rs S a w):Inv c n rs S' a w:=by have:S=S':=funext h;rw[←this];exact I
end
end Go.Vc
