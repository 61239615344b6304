/-
  A part of the proof of the laws.
-/
import Derived.Test.YtckmndepnihanaaGreatDoorAm12
namespace Go.Am
open Go Go.RowKit Go.Vc
def jA(h:Heap):List (Nat×Option AO)→Heap
 |[]=>h
 |(i,o)::r=>jA (h.set i o) r
theorem zcz:∀{u:List (Nat×Option AO)}{h:Heap}{i:Nat},(∀x∈u,x.1≠i)→(jA h u)[i]? =h[i]?
 |[],_,_,_=>rfl
 |(j,o)::r,h,i,hi=>by rw[jA,zcz (fun x hx=>hi x (List.mem_cons_of_mem _ hx)),List.getElem?_set,if_neg (hi (j,o) List.mem_cons_self)]
theorem QA{u:List (Nat×Option AO)}{h:Heap}{i:Nat}(hi:∀x∈u,x.1≠i):hget (jA h u) i=hget h i:=by unfold hget;rw[zcz hi]
theorem zh1{i:Nat}{o:Option AO}:∀{u:List (Nat×Option AO)}{h:Heap},(∀x∈u,x.1≠i)→jA (h.set i o) u=(jA h u).set i o
 |[],_,_=>rfl
 |(j,p)::r,h,hi=>by rw[jA,jA,List.set_comm _ _ (fun e=>hi (j,p) List.mem_cons_self e.symm),zh1 (fun x hx=>hi x (List.mem_cons_of_mem _ hx))]
theorem zey:∀{u v:List (Nat×Option AO)}{h:Heap},(∀x∈u,∀y∈v,x.1≠y.1)→jA (jA h u) v=jA (jA h v) u
 |[],_,_,_=>rfl
 |(i,o)::r,v,h,hd=>by rw[jA,zey (fun x hx=>hd x (List.mem_cons_of_mem _ hx)),zh1 (fun y hy e=>hd (i,o) List.mem_cons_self y hy e.symm)];rfl
theorem Yj:∀{ids:List Nat}{h ho:Heap},jq h ids ho=jA h (ids.zip ho)
 |[],h,ho=>by simp[jq,jA]
 |i::r,h,[]=>by simp[jq,jA]
 |i::r,h,o::s=>by rw[jq,Yj];rfl
section
variable {E : Env}
def Eff(E:Env)(nid:Nat)(op:Op)(st:St)(v:AV)(u:List (Nat×Option AO)):Prop:=∀(T:Type)(k:AV→St→Option T),opK E true nid op st k=k v ⟨st.s,jA st.h u⟩
theorem Jz{args:List AV}{h:Heap}{f:FuncId}{T:Type}{k:Out→Option T}{r:T}:∀{Γ:List Con},Yv args h k f Γ=some r→∃o,k o=some r∧((∀C∈Γ,C.f=f→QuietC C)→o.h=h)∧∀(T':Type)(k':Out→Option T'),Yv args h k' f Γ=k' o
 |[],e=>by cases e
 |C::Γ,e=>by
  simp only[Yv]at e;split at e
  ·rename_i hb;split at e
   ·rename_i x hx;obtain⟨b,h1,h2,h3⟩:=C.hgo _ _ _ _ e;exact⟨_,h2,fun hq=>hq C List.mem_cons_self (Nat.eq_of_beq_eq_true hb) _ _ _ _ hx h1,fun T' k'=>by simp only[Yv,hb,hx];exact h3 T' _⟩
   ·rename_i hx;obtain⟨o,h1,h3,h2⟩:=Jz e;exact⟨o,h1,fun hq=>h3 fun C hC=>hq C (List.mem_cons_of_mem _ hC),fun T' k'=>by simp only[Yv,hb,hx];exact h2 T' k'⟩
  ·rename_i hb;obtain⟨o,h1,h3,h2⟩:=Jz e;exact⟨o,h1,fun hq=>h3 fun C hC=>hq C (List.mem_cons_of_mem _ hC),fun T' k'=>by simp only[Yv,hb];exact h2 T' k'⟩
mutual
theorem zeL{σ τ:Nat→Option Nat}(hb:∀i j,σ i=some j→τ j=some i):∀(v v':AV),jC σ v=some v'→jC τ v'=some v
 |.ptr i o,v',h=>by
  simp only[jC]at h;split at h
  ·rename_i j hj;cases h;simp only[jC,hb _ _ hj]
  ·cases h
 |.ep i z n o,v',h=>by
  simp only[jC]at h;split at h
  ·rename_i j hj;cases h;simp only[jC,hb _ _ hj]
  ·cases h
 |.rw i,v',h=>by
  simp only[jC]at h;split at h
  ·rename_i j hj;cases h;simp only[jC,hb _ _ hj]
  ·cases h
 |.rwp i,v',h=>by
  simp only[jC]at h;split at h
  ·rename_i j hj;cases h;simp only[jC,hb _ _ hj]
  ·cases h
 |.rwf i,v',h=>by
  simp only[jC]at h;split at h
  ·rename_i j hj;cases h;simp only[jC,hb _ _ hj]
  ·cases h
 |.rws i z lo n,v',h=>by
  simp only[jC]at h;split at h
  ·rename_i j hj;cases h;simp only[jC,hb _ _ hj]
  ·cases h
 |.rwc i z lo n,v',h=>by
  simp only[jC]at h;split at h
  ·rename_i j hj;cases h;simp only[jC,hb _ _ hj]
  ·cases h
 |.map i,v',h=>by
  simp only[jC]at h;split at h
  ·rename_i j hj;cases h;simp only[jC,hb _ _ hj]
  ·cases h
 |.fn f first cap,v',h=>by
  simp only[jC]at h;split at h
  ·rename_i a b ha hb';cases h;simp only[jC,qn hb _ _ ha,qn hb _ _ hb']
  ·cases h
 |.agg cs,v',h=>by
  simp only[jC]at h;split at h
  ·rename_i a ha;cases h;simp only[jC,qn hb _ _ ha]
  ·cases h
 |.tup cs,v',h=>by
  simp only[jC]at h;split at h
  ·rename_i a ha;cases h;simp only[jC,qn hb _ _ ha]
  ·cases h
 |.iface t v,v',h=>by
  simp only[jC]at h;split at h
  ·rename_i a ha;cases h;simp only[jC,zeL hb _ _ ha]
  ·cases h
 |.undef,v',h=>by cases h;rfl
 |.int k n,v',h=>by cases h;rfl
 |.bool b,v',h=>by cases h;rfl
 |.str l,v',h=>by cases h;rfl
 |.nilp,v',h=>by cases h;rfl
 |.nilf,v',h=>by cases h;rfl
 |.nili,v',h=>by cases h;rfl
 |.nilm,v',h=>by cases h;rfl
 |.nils,v',h=>by cases h;rfl
 |.rp v,v',h=>by cases h;rfl
 |.pos k,v',h=>by cases h;rfl
 |.rob f l,v',h=>by cases h;rfl
 |.roi f k l,v',h=>by cases h;rfl
 |.ros f l,v',h=>by cases h;rfl
 |.rov f z l,v',h=>by cases h;rfl
 |.fns n fs,v',h=>by cases h;rfl
theorem qn{σ τ:Nat→Option Nat}(hb:∀i j,σ i=some j→τ j=some i):∀(l l':List AV),Yy σ l=some l'→Yy τ l'=some l
 |[],l',h=>by cases h;rfl
 |v::r,l',h=>by
  simp only[Yy]at h;split at h
  ·rename_i a b ha hb';cases h;simp only[Yy,zeL hb _ _ ha,qn hb _ _ hb']
  ·cases h
end
theorem zna{σ τ:Nat→Option Nat}(hb:∀i j,σ i=some j→τ j=some i){o o':AO}(h:JS σ o=some o'):JS τ o'=some o:=by
 cases o with
 |cells T cs=>
  simp only[JS]at h;split at h
  ·rename_i a ha;cases h;simp only[JS,qn hb _ _ ha]
  ·cases h
 |gens T ag z n cs=>
  simp only[JS]at h;split at h
  ·rename_i a ha;cases h;simp only[JS,qn hb _ _ ha]
  ·cases h
 |_=>cases h;rfl
theorem zpj{h:Heap}{i:Nat}{o:AO}(ho:hget h i=some o):h.set i (some o)=h:=by
 unfold hget at ho;split at ho
 ·rename_i q hq;cases ho;refine List.ext_getElem? fun j=>?_
  rw[List.getElem?_set];split
  ·rename_i e;subst e;rw[hq,if_pos (List.getElem?_eq_some_iff.1 hq).1]
  ·rfl
 ·cases ho
theorem WZ{σ τ:Nat→Option Nat}(hb:∀i j,σ i=some j→τ j=some i){h:Heap}:∀{acc:List Nat}{hv ho:Heap},Yn σ h acc=some hv→zfW τ hv=some ho→∀more,jq h (acc++more) ho=h
 |[],hv,ho,h1,h2,more=>by cases h1;cases h2;cases more<;>rfl
 |i::r,hv,ho,h1,h2,more=>by
  simp only[Yn]at h1;split at h1
  ·rename_i o v hg hr;split at h1
   ·rename_i o' ho';cases h1;simp only[zfW]at h2;split at h2
    ·rename_i o2 s e1 e2;cases h2;rw[zna hb ho']at e1;cases e1;rw[List.cons_append,jq,zpj hg];exact WZ hb hr e2 more
    ·cases h2
   ·cases h1
  ·cases h1
theorem zfj{nid f:Nat}{args:List AV}{st:St}{T:Type}{k:AV→St→Option T}{r:T}(h:yD E true nid f args st k=some r):
  ∃(v:AV)(ids:List Nat)(ho:Heap),k v ⟨st.s,jA st.h (ids.zip ho)⟩=some r∧(idsL args=[]→∀i∈ids,i∈newIds nid jL)∧((∀C∈E.Γ,C.f=f→QuietC C)→jA st.h (ids.zip ho)=st.h)∧
   ∀(st':St),(idsL args≠[]→st'.h=st.h)→∀(T':Type)(k':AV→St→Option T'),yD E true nid f args st' k'=k' v ⟨st'.s,jA st'.h (ids.zip ho)⟩:=by
 unfold yD at h;simp only[]at h;generalize hacc:reach st.h 1000 (idsL args) []=acc at h;split at h
 ·rename_i args' hv h1 h2 h3;obtain⟨o,h4,h6,h5⟩:=Jz h;split at h4
  ·rename_i v ho g1 g2 g3 g4;split at h4
   ·rename_i hg;refine⟨v,acc++newIds nid (o.h.length-acc.length),ho,by rw[←Yj];exact h4,fun hnil i hi=>?_,fun hq=>?_,fun st' hst T' k'=>?_⟩
    ·rw[hnil]at hacc;simp only[reach]at hacc;subst hacc;have:=Nat.le_of_ble_eq_true g2;simp only[List.nil_append,List.length_nil,Nat.sub_zero,newIds,List.mem_map,List.mem_range]at hi⊢;obtain⟨x,hx,rfl⟩:=hi;exact⟨x,by simp at this;omega,rfl⟩
    ·have hoh:=h6 hq;rw[hoh]at g4;rw[←Yj];refine WZ (fun i j hj=>?_) h3 g4 _;have e:=JZ hj;have hlt:=(List.getElem?_eq_some_iff.1 e).1;unfold Xl;rw[show Nat.blt j acc.length=true by rw[Nat.blt_eq];exact hlt];exact e
    ·have hacc':reach st'.h 1000 (idsL args) []=acc:=by
      by_cases hnil:idsL args=[]
      ·rw[hnil]at hacc⊢;simp only[reach]at hacc⊢;exact hacc
      ·rw[hst hnil];exact hacc
     have hv':Yn (fun i=>qN i acc 0) st'.h acc=some hv:=by
      by_cases hnil:idsL args=[]
      ·rw[hnil]at hacc;simp only[reach]at hacc;subst hacc;exact h3
      ·rw[hst hnil];exact h3
     unfold yD;simp only[];rw[hacc',h1,h2,hv'];simp only[];rw[h5 T'];simp only[g1,g2,g3,g4,hg];rw[Yj]
   ·cases h4
  ·cases h4
 ·cases h
theorem zfi{n:Int}{nid:Nat}{args:List AV}{st:St}{T:Type}{k:AV→St→Option T}{r:T}{b:Bool}:∀{fs:List FuncId}{i:Nat},Z1 E b nid n args st k i fs=some r→
  ∃f,yD E b nid f args st k=some r∧∀(st':St)(T':Type)(k':AV→St→Option T'),Z1 E b nid n args st' k' i fs=yD E b nid f args st' k'
 |[],i,h=>by cases h
 |f::fs,i,h=>by
  unfold Z1 at h;by_cases hq:n=(i:Int)
  ·rw[decide_eq_true hq]at h;exact⟨f,h,fun st' T' k'=>by unfold Z1;rw[decide_eq_true hq];rfl⟩
  ·rw[decide_eq_false hq]at h;obtain⟨g,h1,h2⟩:=zfi (fs:=fs) (i:=i+1) h;exact⟨g,h1,fun st' T' k'=>by unfold Z1;rw[decide_eq_false hq];exact h2 st' T' k'⟩
theorem XI{ev ev':Operand→AV}:∀{l:List (Nat×Operand)},(∀p∈l,ev' p.2=ev p.2)→Xb ev' l=Xb ev l
 |[],_=>rfl
 |(i,x)::r,h=>by rw[Xb,Xb,h (i,x) List.mem_cons_self,XI (fun p hp=>h p (List.mem_cons_of_mem _ hp))]
theorem zkv{h h':Heap}{v:AV}(hi:∀i∈idsV v,hget h' i=hget h i):zhh h' v=zhh h v:=by
 cases v with
 |rw i=>simp only[zhh,hi i (by simp[idsV])]
 |rwp i=>simp only[zhh,hi i (by simp[idsV])]
 |_=>rfl
theorem ziH{P:Program}{h h':Heap}{t:TypeId}{v:AV}(hi:∀i∈idsV v,hget h' i=hget h i):Vt P h' t v=Vt P h t v:=by
 cases v with
 |ptr i o=>simp only[Vt,hi i (by simp[idsV])]
 |ep i z n o=>
  cases o with
  |zero=>simp only[Vt,hi i (by simp[idsV])]
  |succ o=>simp only[Vt,hi i (by simp[idsV])]
 |_=>rfl
theorem zfF{P:Program}{h h':Heap}{t:TypeId}{v x:AV}(hi:∀i∈idsV v,hget h' i=hget h i):Z3 P h' t v x=Z3 P h t v x:=by
 cases v with
 |ptr i o=>simp only[Z3,hi i (by simp[idsV])]
 |ep i z n o=>
  cases o with
  |zero=>simp only[Z3,hi i (by simp[idsV])]
  |succ o=>simp only[Z3,hi i (by simp[idsV])]
 |_=>rfl
theorem QD{T:TypeId}{ag:Bool}{z z' m off k:Nat}{n:Int}{cs:List AV}{x:AV}{i j:Nat}{c:Bool}{o:AO}(e:YE T ag z z' m n off k cs x i=some (c,j,o)):j=i:=by
 unfold YE at e;split at e
 ·simp only[Option.some.injEq,Prod.mk.injEq]at e;exact e.2.1.symm
 ·cases e
theorem zmZ{T:TypeId}{z z' k:Nat}{n:Int}{l:List AV}{x:AV}{i j:Nat}{c:Bool}{o:AO}(e:zcB T z z' l n k x i=some (c,j,o)):j=i:=by
 unfold zcB at e;split at e
 ·split at e
  ·simp only[Option.some.injEq,Prod.mk.injEq]at e;exact e.2.1.symm
  ·cases e
 ·cases e
theorem zeB{P:Program}{h:Heap}{t:TypeId}{v x:AV}{c:Bool}{i:Nat}{o:AO}(e:Z3 P h t v x=some (c,i,o)):i∈idsV v:=by
 unfold Z3 at e;split at e
 ·split at e
  ·split at e
   ·simp only[Option.some.injEq,Prod.mk.injEq]at e;simp[idsV,e.2.1]
   ·cases e
  ·cases e
 ·split at e
  ·simp only[Option.some.injEq,Prod.mk.injEq]at e;simp[idsV,e.2.1]
  ·split at e
   ·simp only[Option.some.injEq,Prod.mk.injEq]at e;simp[idsV,e.2.1]
   ·cases e
  ·simp only[Option.some.injEq,Prod.mk.injEq]at e;simp[idsV,e.2.1]
  ·split at e
   ·rename_i hq;cases e;have:=zmZ hq;simp[idsV,this]
   ·have:=QD e;simp[idsV,this]
  ·have:=QD e;simp[idsV,this]
  ·cases e
 ·split at e
  ·have:=QD e;simp[idsV,this]
  ·have:=QD e;simp[idsV,this]
  ·cases e
 ·cases e
theorem zis{P:Program}{Q:List FuncId}{h h':Heap}{ev ev':Operand→AV}{nid:Nat}{op:Op}(he:∀x∈op.operands,ev' x=ev x)(hh:∀i∈(fpO Q ev nid op).r,hget h' i=hget h i):
  ya P h' ev' op=ya P h ev op:=by
 cases op with
 |move x=>simp only[ya,he x (by simp[Op.operands])]
 |assign x=>simp only[ya,he x (by simp[Op.operands])]
 |binOp op t x y u=>simp only[ya,he x (by simp[Op.operands]),he y (by simp[Op.operands])]
 |unOp op t x=>simp only[ya,he x (by simp[Op.operands])]
 |convert s d x=>simp only[ya,he x (by simp[Op.operands])]
 |extract x i=>simp only[ya,he x (by simp[Op.operands])]
 |nilCheck x=>simp only[ya,he x (by simp[Op.operands])]
 |makeFunc f first cap=>
  have e1:first.toList.map ev'=first.toList.map ev:=List.map_congr_left fun x hx=>he x (by simp[Op.operands];exact .inl (by simpa using hx))
  have e2:cap.toList.map ev'=cap.toList.map ev:=List.map_congr_left fun x hx=>he x (by simp[Op.operands];exact .inr (by simpa using hx))
  cases f<;>simp only[ya,e1,e2]
 |index t x i=>simp only[ya,he x (by simp[Op.operands]),he i (by simp[Op.operands])]
 |slice t x lo hi mx=>
  have e1:lo.map ev'=lo.map ev:=by cases lo with|none=>rfl|some y=>simp[he y (by simp[Op.operands])]
  have e2:hi.map ev'=hi.map ev:=by cases hi with|none=>rfl|some y=>simp[he y (by simp[Op.operands])]
  cases mx<;>simp only[ya,he x (by simp[Op.operands]),e1,e2]
 |fieldAddr s x f=>simp only[ya,he x (by simp[Op.operands])]
 |field s x f=>simp only[ya,he x (by simp[Op.operands])]
 |indexAddr t x i=>
  have hx:=he x (by simp[Op.operands]);have hi:=he i (by simp[Op.operands]);have hh:∀i∈idsV (un (ev x)),hget h' i=hget h i:=by rw[Zi];exact hh
  simp only[ya,hx,hi];generalize un (ev x)=v at hh;generalize P.underlying t=d;cases d with
  |none=>rfl
  |some d=>
   cases d with
   |slice e=>
    cases v with
    |rw j=>cases ev i with
     |int k n=>simp only[hh j (by simp[idsV])]
     |_=>rfl
    |_=>cases ev i<;>rfl
   |array n e=>
    cases v with
    |rp v=>cases v<;>cases ev i<;>first|rfl|(rename_i nn;cases nn<;>rfl)
    |_=>cases ev i<;>first|rfl|(rename_i nn;cases nn<;>rfl)
   |_=>rfl
 |build t parts=>
  have e:Xb ev' parts.toList=Xb ev parts.toList:=XI fun p hp=>he p.2 (by
   simp only[Op.operands];simp only[List.mem_toArray,List.mem_map];exact⟨p,hp,rfl⟩)
  simp only[ya,e]
 |call c=>
  obtain⟨callee,args,ats⟩:=c;cases callee with
  |builtin b=>
   have hh2:∀i∈idsL (args.toList.map ev),hget h' i=hget h i:=by cases b<;>exact hh
   cases b with
   |len=>
    simp only[ya];cases hat:ats.toList with
    |nil=>rfl
    |cons t r=>
     cases r with
     |cons _ _=>rfl
     |nil=>
      cases hal:args.toList with
      |nil=>rfl
      |cons x s=>
       cases s with
       |cons _ _=>rfl
       |nil=>
        have hx:=he x (by simp only[Op.operands,Call.operands];simp;exact by simpa using(show x∈args.toList by rw[hal];simp));have hl:zhh h' (un (ev x))=zhh h (un (ev x)):=zkv fun i hi=>hh2 i (by rw[Zi]at hi;rw[hal];simp[idsL,hi])
        simp only[hx];generalize P.underlying t=d;cases d with
        |none=>rfl
        |some d=>
         cases d with
         |slice e=>simp only[hl]
         |string=>cases un (ev x)<;>rfl
         |_=>rfl
   |cap=>
    simp only[ya];cases hat:ats.toList with
    |nil=>rfl
    |cons t r=>
     cases r with
     |cons _ _=>rfl
     |nil=>
      cases hal:args.toList with
      |nil=>rfl
      |cons x s=>
       cases s with
       |cons _ _=>rfl
       |nil=>
        have hx:=he x (by simp only[Op.operands,Call.operands];simp;exact by simpa using(show x∈args.toList by rw[hal];simp));have hl:∀i∈idsV (ev x),hget h' i=hget h i:=fun i hi=>hh2 i (by rw[hal];simp[idsL,hi])
        simp only[hx];generalize P.underlying t=d;cases d with
        |none=>rfl
        |some d=>
         cases d with
         |slice e=>
          generalize ev x=v at hl;cases v with
          |rwp i=>simp only[hl i (by simp[idsV])]
          |rwf i=>simp only[hl i (by simp[idsV])]
          |rob b l=>cases b<;>rfl
          |roi b k l=>cases b<;>rfl
          |ros b l=>cases b<;>rfl
          |rov b k l=>cases b<;>rfl
          |_=>rfl
         |_=>rfl
   |_=>rfl
  |value f=>rfl
  |invoke r m=>rfl
 |_=>rfl
theorem V9{h h':Heap}{v:AV}(hi:∀i∈idsV v,hget h' i=hget h i):Za h' v=Za h v:=by
 cases v with
 |rw i=>simp only[Za,hi i (by simp[idsV])]
 |rwp i=>simp only[Za,hi i (by simp[idsV])]
 |rws i z c n=>
  rcases z with _|_|z
  ·rfl
  ·simp only[Za,hi i (by simp[idsV])]
  ·rfl
 |_=>rfl
theorem zfN{h h':Heap}{z:Nat}{v:AV}{lo hi:Option AV}(hh:∀i∈idsV v,hget h' i=hget h i):YG h' z v lo hi=YG h z v lo hi:=by
 cases v with
 |rw i=>simp only[YG,hh i (by simp[idsV])]
 |_=>rfl
theorem zjd{h h':Heap}{z:Nat}{v m:AV}{lo hi:Option AV}(hh:∀i∈idsV v,hget h' i=hget h i):V8 h' z v lo hi m=V8 h z v lo hi m:=by
 cases v with
 |rw i=>
  have e:=hh i (by simp[idsV]);unfold V8;split
  ·cases bdI 0 lo with
   |none=>rfl
   |some a=>simp only[e]
  ·rfl
 |_=>(unfold V8;split<;>first|rfl|(cases bdI 0 lo<;>rfl))
theorem Kg{ev ev':Operand→AV}{y:Option Operand}(h:∀x,y=some x→ev' x=ev x):y.map ev'=y.map ev:=by
 cases y with
 |none=>rfl
 |some x=>rw[Option.map_some,Option.map_some,h x rfl]
theorem ziC{h h':Heap}{v:AV}(hh:∀i∈idsV v,hget h' i=hget h i):zad h' v=zad h v:=by
 cases v with
 |rw i=>simp only[zad,hh i (by simp[idsV])]
 |_=>rfl
theorem YY{P:Program}{Q:List FuncId}{h h':Heap}{ev ev':Operand→AV}{nid:Nat}{op:Op}(he:∀x∈op.operands,ev' x=ev x)(hh:∀i∈(fpO Q ev nid op).r,hget h' i=hget h i):
  yl P h' ev' op=yl P h ev op:=by
 cases op with
 |convert s d x=>have hx:=he x (by simp[Op.operands]);have hb:Za h' (un (ev x))=Za h (un (ev x)):=V9 (by rw[Zi];exact hh);have hm:zad h' (un (ev x))=zad h (un (ev x)):=ziC (by rw[Zi];exact hh);simp only[yl,jK,hx,hb,hm]
 |slice t x lo hi mx=>
  have hx:=he x (by simp[Op.operands]);have h1:lo.map (fun x=>un (ev' x))=lo.map (fun x=>un (ev x)):=Kg fun y hy=>congrArg un (he y (by simp[Op.operands,hy]))
  have h2:hi.map (fun x=>un (ev' x))=hi.map (fun x=>un (ev x)):=Kg fun y hy=>congrArg un (he y (by simp[Op.operands,hy]))
  cases mx with
  |none=>
   have hs:∀z,YG h' z (un (ev x)) (lo.map fun x=>un (ev x)) (hi.map fun x=>un (ev x))=YG h z (un (ev x)) (lo.map fun x=>un (ev x)) (hi.map fun x=>un (ev x)):=fun z=>zfN (by rw[Zi];exact hh)
   simp only[yl,jK,hx,h1,h2,hs]
  |some m=>
   have h3:=he m (by simp[Op.operands]);have hs:∀z,V8 h' z (un (ev x)) (lo.map fun x=>un (ev x)) (hi.map fun x=>un (ev x)) (un (ev m))=V8 h z (un (ev x)) (lo.map fun x=>un (ev x)) (hi.map fun x=>un (ev x)) (un (ev m)):=fun z=>zjd (by rw[Zi];exact hh)
   simp only[yl,jK,hx,h1,h2,h3,hs]
 |call cl=>
  obtain⟨callee,args,ats⟩:=cl;cases callee with
  |builtin b=>
   cases b with
   |max=>
    have ho:∀x∈args.toList,ev' x=ev x:=fun x hx=>he x (by simp only[Op.operands,Call.operands];simp;exact by simpa using hx)
    rcases hal:args.toList with _|⟨x,_|⟨y,_|⟨z,_|⟨_,_⟩⟩⟩⟩<;>rw[hal]at ho
    ·simp only[yl,jK,hal]
    ·simp only[yl,jK,hal]
    ·simp only[yl,jK,hal,ho x (by simp),ho y (by simp)]
    ·simp only[yl,jK,hal,ho x (by simp),ho y (by simp),ho z (by simp)]
    ·simp only[yl,jK,hal]
   |min=>
    cases hal:args.toList with
    |nil=>simp only[yl,jK,hal]
    |cons x r=>
     cases r with
     |nil=>simp only[yl,jK,hal]
     |cons y q=>
      cases q with
      |cons _ _=>simp only[yl,jK,hal]
      |nil=>have hx:=he x (by simp only[Op.operands,Call.operands];simp;exact by simpa using(show x∈args.toList by rw[hal];simp));have hy:=he y (by simp only[Op.operands,Call.operands];simp;exact by simpa using(show y∈args.toList by rw[hal];simp));simp only[yl,jK,hal,hx,hy]
   |_=>rfl
  |_=>rfl
 |makeSlice t a b=>have ha:=he a (by simp[Op.operands]);have hb:=he b (by simp[Op.operands]);simp only[yl,jK,ha,hb]
 |binOp bop t x y yt=>
  have hx:=he x (by simp[Op.operands]);have hy:=he y (by simp[Op.operands]);have key:un (ev y)=.nils→zeK h' (un (ev x))=zeK h (un (ev x)):=fun hn=>by
   simp only[fpO,hn]at hh;cases hu:un (ev x)with
   |rw i=>rw[hu]at hh;simp only[zeK,hh i (by simp)]
   |_=>rfl
  simp only[yl,jK,hx,hy];by_cases hn:un (ev y)=.nils
  ·rw[key hn]
  ·cases hu:un (ev y)<;>first|rfl|exact absurd hu hn
 |_=>rfl
theorem Q1{key:AV}{T:Type}{kont:Option (Nat×AV)→Option T}{r:T}:∀{l:List (AV×AV)}{i:Nat},ZX key kont l i=some r→
  ∃q,kont q=some r∧∀(T':Type)(kont':Option (Nat×AV)→Option T'),ZX key kont' l i=kont' q
 |[],i,h=>⟨none,h,fun _ _=>rfl⟩
 |(x,v)::l,i,h=>by
  simp only[ZX]at h;split at h
  ·rename_i b hb;cases b with
   |true=>exact⟨some (i,v),h,fun T' k'=>by simp only[ZX,hb,cond_true]⟩
   |false=>obtain⟨q,h1,h2⟩:=Q1 (l:=l) (i:=i+1) h;exact⟨q,h1,fun T' k'=>by simp only[ZX,hb,cond_false];exact h2 T' k'⟩
  ·cases h
theorem Y0{h h':Heap}{v:AV}(hh:∀i∈idsV v,hget h' i=hget h i):qO h' v=qO h v:=by
 cases v with
 |map i=>simp only[qO,hh i (by simp[idsV])]
 |_=>rfl
theorem Vq{h:Heap}{v:AV}{i:Nat}{l:List (AV×AV)}(e:qO h v=some (i,l)):i∈idsV v:=by
 unfold qO at e;split at e
 ·split at e
  ·cases e;simp[idsV]
  ·cases e
 ·cases e
theorem zjc{P:Program}{h h':Heap}{t:TypeId}{v x:AV}(hv:∀i∈idsV v,hget h' i=hget h i)(hx:∀i∈idsV x,hget h' i=hget h i):zau P h' t v x=zau P h t v x:=by
 have e1:zob h' x=zob h x:=by
  cases x with
  |str l=>rfl
  |_=>exact V9 hx
 have e2:zkN h' v=zkN h v:=by
  cases v with
  |rw i=>simp only[zkN,hv i (by simp[idsV])]
  |rws i z c n=>have:=hv i (by simp[idsV]);unfold zkN;split<;>simp_all
  |_=>rfl
 simp only[zau,e1,e2]
theorem zrY{P:Program}{h:Heap}{t:TypeId}{v x:AV}{q i:Nat}{o:AO}(e:zau P h t v x=some (q,i,o)):i∈idsV v:=by
 unfold zau at e;split at e
 ·split at e
  ·rename_i hd _;cases e;unfold zkN at hd;split at hd
   ·split at hd
    ·simp only[Option.some.injEq,Prod.mk.injEq]at hd;simp[idsV,hd.1]
    ·cases hd
   ·split at hd
    ·simp only[Option.some.injEq,Prod.mk.injEq]at hd;simp[idsV,hd.1]
    ·cases hd
   ·cases hd
  ·cases e
 ·cases e
def Ext(h h':Heap):Prop:=∀i o,hget h i=some o→hget h' i=some o
theorem Ext.trans{a b c:Heap}(h:Ext a b)(k:Ext b c):Ext a c:=fun i o e=>k i o (h i o e)
theorem Wv{h h':Heap}(e:Ext h h'):∀(n:Nat)(todo acc:List Nat),(∀i∈reach h n todo acc,∃o,hget h i=some o)→reach h' n todo acc=reach h n todo acc
 |0,_,_,_=>by simp only[reach]
 |_+1,[],_,_=>by simp only[reach]
 |n+1,i::r,acc,hl=>by
  simp only[reach]at hl⊢;split
  ·rename_i hm;simp only[hm]at hl;exact Wv e n r acc hl
  ·rename_i hm;simp only[hm]at hl;cases hg:hget h i with
   |some o=>simp only[hg]at hl;simp only[e i o hg];exact Wv e n _ _ hl
   |none=>exfalso;simp only[hg]at hl;obtain⟨rest,he⟩:=jV h n r (acc++[i]);obtain⟨o,ho⟩:=hl i (by rw[he];simp);rw[hg]at ho;cases ho
theorem zex{σ:Nat→Option Nat}{h h':Heap}(e:Ext h h'):∀{acc:List Nat}{v:Heap},Yn σ h acc=some v→Yn σ h' acc=some v
 |[],_,hv=>hv
 |i::r,v,hv=>by
  simp only[Yn]at hv⊢;split at hv
  ·rename_i o v' ho hr;rw[e i o ho,zex e hr];exact hv
  ·cases hv
theorem zjh{nid f:Nat}{args:List AV}{st:St}{T:Type}{k:AV→St→Option T}{r:T}(h:yD E true nid f args st k=some r)(hq:∀C∈E.Γ,C.f=f→QuietC C):
  ∃v,k v st=some r∧∀(st':St),Ext st.h st'.h→∀(T':Type)(k':AV→St→Option T'),yD E true nid f args st' k'=k' v st':=by
 unfold yD at h;simp only[]at h;generalize hacc:reach st.h 1000 (idsL args) []=acc at h;split at h
 ·rename_i args' hv h1 h2 h3;obtain⟨o,h4,h6,h5⟩:=Jz h;have hoh:=h6 hq;split at h4
  ·rename_i v ho g1 g2 g3 g4;have hlen:o.h.length=acc.length:=by rw[hoh];exact (Zs h3).1
   have back:∀st':St,Yn (fun i=>qN i acc 0) st'.h acc=some hv→jq st'.h (acc++newIds nid (o.h.length-acc.length)) ho=st'.h:=fun st' hv'=>by rw[hoh]at g4;refine WZ (fun i j hj=>?_) hv' g4 _;have e:=JZ hj;have hlt:=(List.getElem?_eq_some_iff.1 e).1;unfold Xl;rw[show Nat.blt j acc.length=true by rw[Nat.blt_eq];exact hlt];exact e
   split at h4
   ·rename_i hg;refine⟨v,by rw[back st h3]at h4;exact h4,fun st' he T' k'=>?_⟩;have hacc':reach st'.h 1000 (idsL args) []=acc:=by
     rw[←hacc];refine Wv he 1000 _ _ fun i hi=>?_
     rw[hacc]at hi;obtain⟨p,hp⟩:=List.mem_iff_getElem?.1 hi;obtain⟨o,_,h7,_⟩:=(Zs h3).2 p i hp;exact⟨o,h7⟩
    have hv':=zex he h3;unfold yD;simp only[];rw[hacc',h1,h2,hv'];simp only[];rw[h5 T'];simp only[g1,g2,g3,g4,hg];rw[back st' hv']
   ·cases h4
  ·cases h4
 ·cases h
theorem znf{nid:Nat}{op:Op}{st:St}{T:Type}{k:AV→St→Option T}{r:T}(h:opK E true nid op st k=some r)(hb:(fpO E.Q (opnd E.gl st.s) nid op).big=true)(hr:(fpO E.Q (opnd E.gl st.s) nid op).r≠[]):
  ∃v,k v st=some r∧∀st':St,(∀x∈op.operands,opnd E.gl st'.s x=opnd E.gl st.s x)→Ext st.h st'.h→∀(T':Type)(k':AV→St→Option T'),opK E true nid op st' k'=k' v st':=by
 cases op with
 |call c=>
  obtain⟨callee,args,ats⟩:=c;cases callee with
  |value f=>
   simp only[opK]at h;split at h
   ·rename_i g first cap hg
    have hf':∀st':St,(∀x∈(Op.call ⟨.value f,args,ats⟩).operands,opnd E.gl st'.s x=opnd E.gl st.s x)→∀(T:Type)(k:AV→St→Option T),opK E true nid (.call ⟨.value f,args,ats⟩) st' k=yD E true nid g (first++args.toList.map (opnd E.gl st.s)++cap) st' k:=fun st' ha T k=>by
     have hf:=ha f (by simp[Op.operands,Call.operands]);have hargs:args.toList.map (opnd E.gl st'.s)=args.toList.map (opnd E.gl st.s):=List.map_congr_left fun x hx=>ha x (by
      simp only[Op.operands,Call.operands];simp;exact .inr (by simpa using hx))
     simp only[opK,hf,hg,hargs]
    have hq:memN g E.Q=true:=by
     cases hq:memN g E.Q with
     |true=>rfl
     |false=>exfalso;simp only[fpO,hg,hq]at hr;split at hr<;>first|exact hr rfl|(rename_i hh _;cases hh)
    obtain⟨v,h1,h2⟩:=zjh h (E.hQ g hq);exact⟨v,h1,fun st' ha he T' k'=>by rw[hf' st' ha];exact h2 st' he T' k'⟩
   ·rename_i q fs hg;exfalso;simp only[fpO,hg]at hr;split at hr<;>exact hr rfl
   ·cases h
  |builtin b=>cases b<;>cases hb
  |_=>cases hb
 |binOp bop t x y yt=>simp only[fpO]at hb;split at hb<;>cases hb
 |_=>cases hb
theorem zvk{nid:Nat}{op:Op}{st:St}{T:Type}{k:AV→St→Option T}{r:T}(h:opK E true nid op st k=some r):
  ∃v u,k v ⟨st.s,jA st.h u⟩=some r∧((fpO E.Q (opnd E.gl st.s) nid op).big=false→∀x∈u,x.1∈(fpO E.Q (opnd E.gl st.s) nid op).w)∧
   ((fpO E.Q (opnd E.gl st.s) nid op).w=[]→((fpO E.Q (opnd E.gl st.s) nid op).big=false∨(fpO E.Q (opnd E.gl st.s) nid op).r≠[])→u=[])∧
   ∀st':St,(∀x∈op.operands,opnd E.gl st'.s x=opnd E.gl st.s x)→((fpO E.Q (opnd E.gl st.s) nid op).big=true→st'.h=st.h)→
    ((fpO E.Q (opnd E.gl st.s) nid op).big=false→∀i∈(fpO E.Q (opnd E.gl st.s) nid op).r,hget st'.h i=hget st.h i)→Eff E nid op st' v u:=by
 have nilu:∀{v:AV},k v st=some r→(∀st':St,(∀x∈op.operands,opnd E.gl st'.s x=opnd E.gl st.s x)→((fpO E.Q (opnd E.gl st.s) nid op).big=true→st'.h=st.h)→
    ((fpO E.Q (opnd E.gl st.s) nid op).big=false→∀i∈(fpO E.Q (opnd E.gl st.s) nid op).r,hget st'.h i=hget st.h i)→∀(T:Type)(k:AV→St→Option T),opK E true nid op st' k=k v st')→
   ∃v u,k v ⟨st.s,jA st.h u⟩=some r∧((fpO E.Q (opnd E.gl st.s) nid op).big=false→∀x∈u,x.1∈(fpO E.Q (opnd E.gl st.s) nid op).w)∧
   ((fpO E.Q (opnd E.gl st.s) nid op).w=[]→((fpO E.Q (opnd E.gl st.s) nid op).big=false∨(fpO E.Q (opnd E.gl st.s) nid op).r≠[])→u=[])∧
   ∀st':St,(∀x∈op.operands,opnd E.gl st'.s x=opnd E.gl st.s x)→((fpO E.Q (opnd E.gl st.s) nid op).big=true→st'.h=st.h)→
    ((fpO E.Q (opnd E.gl st.s) nid op).big=false→∀i∈(fpO E.Q (opnd E.gl st.s) nid op).r,hget st'.h i=hget st.h i)→Eff E nid op st' v u:=
  fun h1 h2=>⟨_,[],h1,by simp,fun _ _=>rfl,fun st' a b c T k=>h2 st' a b c T k⟩
 have other:∀{v:AV},ya E.P st.h (opnd E.gl st.s) op=some (true,v)→k v st=some r→(fpO E.Q (opnd E.gl st.s) nid op).big=false→
   yl E.P st.h (opnd E.gl st.s) op=none→
   (∀(st':St)(T:Type)(k:AV→St→Option T),opK E true nid op st' k=match yl E.P st'.h (opnd E.gl st'.s) op with
    |some (c,.val v)=>chk c (k v st')
    |some (c,.row o)=>chk c (k (newV E.gl op nid) ⟨st'.s,st'.h.set nid (some o)⟩)
    |none=>match ya E.P st'.h (opnd E.gl st'.s) op with|some (c,v)=>chk c (k v st')|none=>none)→
   ∃v u,k v ⟨st.s,jA st.h u⟩=some r∧((fpO E.Q (opnd E.gl st.s) nid op).big=false→∀x∈u,x.1∈(fpO E.Q (opnd E.gl st.s) nid op).w)∧
   ((fpO E.Q (opnd E.gl st.s) nid op).w=[]→((fpO E.Q (opnd E.gl st.s) nid op).big=false∨(fpO E.Q (opnd E.gl st.s) nid op).r≠[])→u=[])∧
   ∀st':St,(∀x∈op.operands,opnd E.gl st'.s x=opnd E.gl st.s x)→((fpO E.Q (opnd E.gl st.s) nid op).big=true→st'.h=st.h)→
    ((fpO E.Q (opnd E.gl st.s) nid op).big=false→∀i∈(fpO E.Q (opnd E.gl st.s) nid op).r,hget st'.h i=hget st.h i)→Eff E nid op st' v u:=by
  intro v h1 h2 h3 h5 h4;refine nilu h2 fun st' ha hb hc T k=>?_
  rw[h4,YY (nid:=nid) ha (hc h3),h5,zis (nid:=nid) ha (hc h3),h1];rfl
 have mores:∀{c:Bool}{m:MA},yl E.P st.h (opnd E.gl st.s) op=some (c,m)→(match m with|.val v=>chk c (k v st)|.row o=>chk c (k (newV E.gl op nid) ⟨st.s,st.h.set nid (some o)⟩))=some r→(fpO E.Q (opnd E.gl st.s) nid op).big=false→
   (∀o,m=.row o→(fpO E.Q (opnd E.gl st.s) nid op).w=[nid])→
   (∀(st':St)(T:Type)(k:AV→St→Option T),opK E true nid op st' k=match yl E.P st'.h (opnd E.gl st'.s) op with
    |some (c,.val v)=>chk c (k v st')
    |some (c,.row o)=>chk c (k (newV E.gl op nid) ⟨st'.s,st'.h.set nid (some o)⟩)
    |none=>match ya E.P st'.h (opnd E.gl st'.s) op with|some (c,v)=>chk c (k v st')|none=>none)→
   ∃v u,k v ⟨st.s,jA st.h u⟩=some r∧((fpO E.Q (opnd E.gl st.s) nid op).big=false→∀x∈u,x.1∈(fpO E.Q (opnd E.gl st.s) nid op).w)∧
   ((fpO E.Q (opnd E.gl st.s) nid op).w=[]→((fpO E.Q (opnd E.gl st.s) nid op).big=false∨(fpO E.Q (opnd E.gl st.s) nid op).r≠[])→u=[])∧
   ∀st':St,(∀x∈op.operands,opnd E.gl st'.s x=opnd E.gl st.s x)→((fpO E.Q (opnd E.gl st.s) nid op).big=true→st'.h=st.h)→
    ((fpO E.Q (opnd E.gl st.s) nid op).big=false→∀i∈(fpO E.Q (opnd E.gl st.s) nid op).r,hget st'.h i=hget st.h i)→Eff E nid op st' v u:=by
  intro c m h1 h2 h3 h6 h4;cases m with
  |val v=>
   simp only at h2;obtain⟨rfl,h2⟩:=zo h2;refine nilu h2 fun st' ha hb hc T k=>?_
   rw[h4,YY (nid:=nid) ha (hc h3),h1];rfl
  |row o=>
   have h6:=h6 o rfl;simp only at h2;obtain⟨rfl,h2⟩:=zo h2;refine⟨_,[(nid,some o)],h2,fun _ x hx=>?_,fun hw _=>?_,fun st' ha _ hc T k=>?_⟩
   ·simp only[List.mem_singleton]at hx;subst hx;rw[h6];simp
   ·rw[h6]at hw;cases hw
   ·rw[h4,YY (nid:=nid) ha (hc h3),h1];rfl
 cases op with
 |pick c a b=>
  simp only[opK]at h;split at h
  ·rename_i x hx;cases x with
   |true=>
    refine nilu h fun st' ha hb hc T k=>?_
    simp only[opK,ha c (by simp[Op.operands]),ha a (by simp[Op.operands]),hx,cond_true]
   |false=>
    refine nilu h fun st' ha hb hc T k=>?_
    simp only[opK,ha c (by simp[Op.operands]),ha b (by simp[Op.operands]),hx,cond_false]
  ·cases h
 |alloc t=>
  simp only[opK]at h;split at h
  ·rename_i cs hz;refine⟨_,[(nid,some (.cells t cs))],h,fun _ x hx=>?_,fun hw _=>by simp[fpO]at hw,fun st' _ _ _ T k=>?_⟩
   ·simp only[List.mem_singleton]at hx;subst hx;simp[fpO]
   ·simp only[opK,hz];rfl
  ·cases h
 |box t x=>
  simp only[opK]at h;split at h
  ·rename_i ho;refine⟨_,[(nid,some (.cells t (cellsA (opnd E.gl st.s x))))],h,fun _ x hx=>?_,fun hw _=>by simp[fpO]at hw,fun st' ha _ _ T k=>?_⟩
   ·simp only[List.mem_singleton]at hx;subst hx;simp[fpO]
   ·simp only[opK,ha x (by simp[Op.operands]),ho];rfl
  ·cases h
 |buildSlice t len parts=>
  simp only[opK]at h;split at h
  ·rename_i c o hb;obtain⟨rfl,h⟩:=zo h;refine⟨_,[(nid,some o)],h,fun _ x hx=>?_,fun hw _=>by simp[fpO]at hw,fun st' ha _ _ T k=>?_⟩
   ·simp only[List.mem_singleton]at hx;subst hx;simp[fpO]
   ·have e:Xb (opnd E.gl st'.s) parts.toList=Xb (opnd E.gl st.s) parts.toList:=XI fun p hp=>ha p.2 (by
     simp only[Op.operands];simp only[List.mem_toArray,List.mem_map];exact⟨p,hp,rfl⟩)
    simp only[opK,e,hb];rfl
  ·cases h
 |load t x=>
  simp only[opK]at h;split at h
  ·rename_i c v hv;obtain⟨rfl,h⟩:=zo h;refine nilu h fun st' ha _ hc T k=>?_
   have e:=ziH (P:=E.P) (t:=t) (h:=st.h) (h':=st'.h) (v:=opnd E.gl st.s x) (hc rfl);simp only[opK,ha x (by simp[Op.operands]),e,hv];rfl
  ·cases h
 |store t x y=>
  simp only[opK]at h;split at h
  ·rename_i c i o hs;obtain⟨rfl,h⟩:=zo h;refine⟨_,[(i,some o)],h,fun _ z hz=>?_,fun hw _=>?_,fun st' ha _ hc T k=>?_⟩
   ·simp only[List.mem_singleton]at hz;subst hz;exact zeB hs
   ·have:=zeB hs;have hw:idsV (opnd E.gl st.s x)=[]:=hw;rw[hw]at this;cases this
   ·have e:=zfF (P:=E.P) (t:=t) (h:=st.h) (h':=st'.h) (v:=opnd E.gl st.s x) (x:=opnd E.gl st.s y) (hc rfl);simp only[opK,ha x (by simp[Op.operands]),ha y (by simp[Op.operands]),e,hs];rfl
  ·cases h
 |call c=>
  obtain⟨callee,args,ats⟩:=c;cases callee with
  |value f=>
   simp only[opK]at h;split at h
   ·rename_i g first cap hg
    obtain⟨v,ids,ho,h1,h2,h4,h3⟩:=zfj h;have hf':∀st':St,(∀x∈(Op.call ⟨.value f,args,ats⟩).operands,opnd E.gl st'.s x=opnd E.gl st.s x)→∀(T:Type)(k:AV→St→Option T),opK E true nid (.call ⟨.value f,args,ats⟩) st' k=yD E true nid g (first++args.toList.map (opnd E.gl st.s)++cap) st' k:=fun st' ha T k=>by
     have hf:=ha f (by simp[Op.operands,Call.operands]);have hargs:args.toList.map (opnd E.gl st'.s)=args.toList.map (opnd E.gl st.s):=List.map_congr_left fun x hx=>ha x (by
      simp only[Op.operands,Call.operands];simp;exact .inr (by simpa using hx))
     simp only[opK,hf,hg,hargs]
    by_cases hn:idsL (first++args.toList.map (opnd E.gl st.s)++cap)=[]
    ·have hfp:fpO E.Q (opnd E.gl st.s) nid (.call ⟨.value f,args,ats⟩)=⟨[],newIds nid jL,false⟩:=by simp only[fpO,hg,hn]
     refine⟨v,ids.zip ho,h1,fun hb x hx=>?_,fun hw _=>?_,fun st' ha hb hc T k=>?_⟩
     ·rw[hfp];exact h2 hn x.1 (List.of_mem_zip (a:=x.1) (b:=x.2) hx).1
     ·rw[hfp]at hw;simp[newIds,jL]at hw
     ·rw[hf' st' ha];exact h3 st' (fun h=>(h hn).elim) T k
    ·cases hq:memN g E.Q with
     |true=>
      have hfp:fpO E.Q (opnd E.gl st.s) nid (.call ⟨.value f,args,ats⟩)=⟨[0],[],true⟩:=by simp only[fpO,hg,hq]
      have hsame:=h4 (E.hQ g hq);refine⟨v,[],by rw[hsame]at h1;exact h1,fun hb=>?_,fun _ _=>rfl,fun st' ha hb hc T k=>?_⟩
      ·rw[hfp]at hb;cases hb
      ·have hst:st'.h=st.h:=hb (by rw[hfp]);rw[hf' st' ha,h3 st' (fun _=>hst) T k,hst,hsame];rfl
     |false=>
      have hfp:fpO E.Q (opnd E.gl st.s) nid (.call ⟨.value f,args,ats⟩)=⟨[],[],true⟩:=by simp only[fpO,hg,hq]
      refine⟨v,ids.zip ho,h1,fun hb=>?_,fun _ hb=>?_,fun st' ha hb hc T k=>?_⟩
      ·rw[hfp]at hb;cases hb
      ·rw[hfp]at hb;rcases hb with hb|hb
       ·cases hb
       ·exact (hb rfl).elim
      ·rw[hf' st' ha];exact h3 st' (fun _=>hb (by rw[hfp])) T k
   ·rename_i q fs hg;obtain⟨g,h,hN⟩:=zfi h;obtain⟨v,ids,ho,h1,h2,_,h3⟩:=zfj h;have hfp:fpO E.Q (opnd E.gl st.s) nid (.call ⟨.value f,args,ats⟩)=match idsL (args.toList.map (opnd E.gl st.s))with
     |[]=>⟨[],newIds nid jL,false⟩
     |_=>⟨[],[],true⟩:=by simp only[fpO,hg];cases idsL (List.map (opnd E.gl st.s) args.toList)<;>rfl
    refine⟨v,ids.zip ho,h1,fun hb x hx=>?_,fun hw hb=>?_,fun st' ha hb hc T k=>?_⟩
    ·rw[hfp]at hb⊢;split at hb
     ·rename_i hn;simp only;exact h2 hn x.1 (List.of_mem_zip (a:=x.1) (b:=x.2) hx).1
     ·cases hb
    ·rw[hfp]at hw hb;split at hb
     ·rename_i hn;rw[hn]at hw;simp[newIds,jL]at hw
     ·rcases hb with hb|hb
      ·cases hb
      ·exact (hb rfl).elim
    ·have hf:=ha f (by simp[Op.operands,Call.operands]);have hargs:args.toList.map (opnd E.gl st'.s)=args.toList.map (opnd E.gl st.s):=List.map_congr_left fun x hx=>ha x (by
      simp only[Op.operands,Call.operands];simp;exact .inr (by simpa using hx))
     simp only[opK,hf,hg,hargs];rw[hN];refine h3 st' (fun hn=>hb ?_) T k;rw[hfp];split
     ·rename_i hn';exact absurd hn' hn
     ·rfl
   ·cases h
  |builtin b=>
   cases b with
   |append=>simp only[opK]at h;cases h
   |copy=>
    simp only[opK]at h;split at h
    ·rename_i t tx d x hats hargs;split at h
     ·rename_i q i o hs;have hid:=zrY hs;rw[Zi]at hid;have hids:idsL (args.toList.map (opnd E.gl st.s))=idsV (opnd E.gl st.s d)++(idsV (opnd E.gl st.s x)++[]):=by rw[hargs];rfl
      have hfp:fpO E.Q (opnd E.gl st.s) nid (.call ⟨.builtin .copy,args,ats⟩)=⟨idsV (opnd E.gl st.s d)++(idsV (opnd E.gl st.s x)++[]),idsV (opnd E.gl st.s d)++(idsV (opnd E.gl st.s x)++[]),false⟩:=by simp only[fpO,hids]
      refine⟨_,[(i,some o)],h,fun _ z hz=>?_,fun hw _=>?_,fun st' ha _ hc T k=>?_⟩
      ·simp only[List.mem_singleton]at hz;subst hz;rw[hfp];exact List.mem_append_left _ hid
      ·rw[hfp]at hw;have hw:=(List.append_eq_nil_iff.1 hw).1;rw[hw]at hid;cases hid
      ·rw[hfp]at hc;have hm:∀y∈args.toList,opnd E.gl st'.s y=opnd E.gl st.s y:=fun y hy=>ha y (by
        simp only[Op.operands,Call.operands];simp;exact by simpa using hy)
       have e:=zjc (P:=E.P) (t:=t) (h:=st.h) (h':=st'.h) (v:=un (opnd E.gl st.s d)) (x:=un (opnd E.gl st.s x)) (fun j hj=>hc rfl j (List.mem_append_left _ (by rwa [Zi]at hj))) (fun j hj=>hc rfl j (List.mem_append_right _ (List.mem_append_left _ (by rwa [Zi]at hj))));simp only[opK,hats,hargs,hm d (by rw[hargs];simp),hm x (by rw[hargs];simp),e,hs];rfl
     ·cases h
    ·cases h
   |max=>
    simp only[opK]at h;split at h
    ·rename_i c v hv;exact mores hv h rfl (fun _ e=>by cases e) (fun st' T k=>rfl)
    ·rename_i c o hv;rcases moreA_row hv with⟨_,_,_,e⟩|⟨_,_,_,e⟩<;>cases e
    ·rename_i hm;split at h
     ·rename_i c v hv;obtain⟨rfl,h⟩:=zo h;exact other hv h rfl hm (fun st' T k=>rfl)
     ·cases h
   |min=>
    simp only[opK]at h;split at h
    ·rename_i c v hv;exact mores hv h rfl (fun _ e=>by cases e) (fun st' T k=>rfl)
    ·rename_i c o hv;rcases moreA_row hv with⟨_,_,_,e⟩|⟨_,_,_,e⟩<;>cases e
    ·rename_i hm;split at h
     ·rename_i c v hv;obtain⟨rfl,h⟩:=zo h;exact other hv h rfl hm (fun st' T k=>rfl)
     ·cases h
   |_=>
    simp only[opK]at h;split at h
    ·rename_i hv;cases hv
    ·rename_i hv;cases hv
    ·split at h
     ·rename_i c v hv;obtain⟨rfl,h⟩:=zo h;exact other hv h rfl rfl (fun st' T k=>rfl)
     ·cases h
  |invoke m n=>
   simp only[opK]at h;split at h
   ·rename_i hv;cases hv
   ·rename_i hv;cases hv
   ·split at h
    ·rename_i c v hv;obtain⟨rfl,h⟩:=zo h;exact other hv h rfl rfl (fun st' T k=>rfl)
    ·cases h
 |convert s d x=>
  simp only[opK]at h;split at h
  ·rename_i c v hv;exact mores hv h rfl (fun _ _=>rfl) (fun st' T k=>rfl)
  ·rename_i c o hv;exact mores hv h rfl (fun _ _=>rfl) (fun st' T k=>rfl)
  ·rename_i hm;split at h
   ·rename_i c v hv;obtain⟨rfl,h⟩:=zo h;exact other hv h rfl hm (fun st' T k=>rfl)
   ·cases h
 |makeSlice t x y=>
  simp only[opK]at h;split at h
  ·rename_i c v hv;exact mores hv h rfl (fun _ _=>rfl) (fun st' T k=>rfl)
  ·rename_i c o hv;exact mores hv h rfl (fun _ _=>rfl) (fun st' T k=>rfl)
  ·rename_i hm;split at h
   ·rename_i c v hv;obtain⟨rfl,h⟩:=zo h;exact other hv h rfl hm (fun st' T k=>rfl)
   ·cases h
 |slice t x lo hi mx=>
  simp only[opK]at h;split at h
  ·rename_i c v hv;exact mores hv h rfl (fun _ e=>by cases e) (fun st' T k=>rfl)
  ·rename_i c o hv;rcases moreA_row hv with⟨_,_,_,e⟩|⟨_,_,_,e⟩<;>cases e
  ·rename_i hm;split at h
   ·rename_i c v hv;obtain⟨rfl,h⟩:=zo h;exact other hv h rfl hm (fun st' T k=>rfl)
   ·cases h
 |makeMap t rs=>
  simp only[opK]at h;have fin:k (.map nid) ⟨st.s,st.h.set nid (some (.mp []))⟩=some r→(∀st':St,(∀x∈(Op.makeMap t rs).operands,opnd E.gl st'.s x=opnd E.gl st.s x)→∀(T:Type)(k:AV→St→Option T),opK E true nid (.makeMap t rs) st' k=k (.map nid) ⟨st'.s,st'.h.set nid (some (.mp []))⟩)→
    ∃v u,k v ⟨st.s,jA st.h u⟩=some r∧((fpO E.Q (opnd E.gl st.s) nid (.makeMap t rs)).big=false→∀x∈u,x.1∈(fpO E.Q (opnd E.gl st.s) nid (.makeMap t rs)).w)∧
   ((fpO E.Q (opnd E.gl st.s) nid (.makeMap t rs)).w=[]→((fpO E.Q (opnd E.gl st.s) nid (.makeMap t rs)).big=false∨(fpO E.Q (opnd E.gl st.s) nid (.makeMap t rs)).r≠[])→u=[])∧
   ∀st':St,(∀x∈(Op.makeMap t rs).operands,opnd E.gl st'.s x=opnd E.gl st.s x)→((fpO E.Q (opnd E.gl st.s) nid (.makeMap t rs)).big=true→st'.h=st.h)→
    ((fpO E.Q (opnd E.gl st.s) nid (.makeMap t rs)).big=false→∀i∈(fpO E.Q (opnd E.gl st.s) nid (.makeMap t rs)).r,hget st'.h i=hget st.h i)→Eff E nid (.makeMap t rs) st' v u:=by
   intro h1 h2;refine⟨_,[(nid,some (.mp []))],h1,fun _ x hx=>?_,fun hw _=>by simp[fpO]at hw,fun st' ha _ _ T k=>?_⟩
   ·simp only[List.mem_singleton]at hx;subst hx;simp[fpO]
   ·rw[h2 st' ha T k];rfl
  split at h
  ·exact fin h fun st' _ T k=>by simp only[opK]
  ·rename_i x p0 k0 n0 ht hx0;refine fin h fun st' ha T k=>?_
   have hx1:=ha x (by simp[Op.operands]);have e:opnd E.gl st.s x=.int k0 n0:=by simpa using hx0
   simp only[opK,ht,Option.map_some,hx1,e]
  ·cases h
 |lookup t x ix ok=>
  simp only[opK]at h;split at h
  ·rename_i kt et i l ht hat;split at h
   ·rename_i z hk hz;have go:∀(q:Option (Nat×AV))(v:AV),(∀(T':Type)(kont':Option (Nat×AV)→Option T'),ZX (opnd E.gl st.s ix) kont' l 0=kont' q)→k v st=some r→
     (∀(T:Type)(k:AV→St→Option T)(st':St),(match q with|some (_,v)=>k (okV ok v true) st'|none=>k (okV ok z false) st')=k v st')→
     ∃v u,k v ⟨st.s,jA st.h u⟩=some r∧((fpO E.Q (opnd E.gl st.s) nid (.lookup t x ix ok)).big=false→∀y∈u,y.1∈(fpO E.Q (opnd E.gl st.s) nid (.lookup t x ix ok)).w)∧
   ((fpO E.Q (opnd E.gl st.s) nid (.lookup t x ix ok)).w=[]→((fpO E.Q (opnd E.gl st.s) nid (.lookup t x ix ok)).big=false∨(fpO E.Q (opnd E.gl st.s) nid (.lookup t x ix ok)).r≠[])→u=[])∧
   ∀st':St,(∀y∈(Op.lookup t x ix ok).operands,opnd E.gl st'.s y=opnd E.gl st.s y)→((fpO E.Q (opnd E.gl st.s) nid (.lookup t x ix ok)).big=true→st'.h=st.h)→
    ((
     fpO E.Q (opnd E.gl st.s) nid (.lookup t x ix ok)).big=false→∀i∈(fpO E.Q (opnd E.gl st.s) nid (.lookup t x ix ok)).r,hget st'.h i=hget st.h i)→Eff E nid (.lookup t x ix ok) st' v u:=by
     intro q v h2 hv hall;refine nilu hv fun st' ha _ hc T k=>?_
     have hloc:qO st'.h (opnd E.gl st.s x)=qO st.h (opnd E.gl st.s x):=Y0 (hc rfl);simp only[opK,ha x (by simp[Op.operands]),ha ix (by simp[Op.operands]),ht,hloc,hat,hk,hz];rw[h2];exact hall T k st'
    obtain⟨q,h1,h2⟩:=Q1 h;cases q with
    |none=>exact go none _ h2 h1 fun _ _ _=>rfl
    |some p=>exact go (some p) _ h2 h1 fun _ _ _=>rfl
   ·cases h
  ·cases h
 |mapUpdate t m x y=>
  simp only[opK]at h;split at h
  ·rename_i kt et i l ht hat;split at h
   ·rename_i hk hids;obtain⟨q,h1,h2⟩:=Q1 h;refine⟨_,[(i,some (.mp (mapPut l (opnd E.gl st.s x) (opnd E.gl st.s y) q)))],h1,fun _ z hz=>?_,fun hw _=>?_,fun st' ha _ hc T k=>?_⟩
    ·simp only[List.mem_singleton]at hz;subst hz;exact Vq hat
    ·have:=Vq hat;have hw:idsV (opnd E.gl st.s m)=[]:=hw;rw[hw]at this;cases this
    ·have hloc:qO st'.h (opnd E.gl st.s m)=qO st.h (opnd E.gl st.s m):=Y0 (hc rfl);simp only[opK,ha m (by simp[Op.operands]),ha x (by simp[Op.operands]),ha y (by simp[Op.operands]),ht,hloc,hat,hk,hids];rw[h2];rfl
   ·cases h
  ·cases h
 |insert t m x y=>
  simp only[opK]at h;split at h
  ·rename_i kt et i l ht hat;split at h
   ·rename_i hk hids;obtain⟨q,h1,h2⟩:=Q1 h;refine⟨_,[(i,some (.mp (mapPut l (opnd E.gl st.s x) (opnd E.gl st.s y) q)))],h1,fun _ z hz=>?_,fun hw _=>?_,fun st' ha _ hc T k=>?_⟩
    ·simp only[List.mem_singleton]at hz;subst hz;exact Vq hat
    ·have:=Vq hat;have hw:idsV (opnd E.gl st.s m)=[]:=hw;rw[hw]at this;cases this
    ·have hloc:qO st'.h (opnd E.gl st.s m)=qO st.h (opnd E.gl st.s m):=Y0 (hc rfl);simp only[opK,ha m (by simp[Op.operands]),ha x (by simp[Op.operands]),ha y (by simp[Op.operands]),ht,hloc,hat,hk,hids];rw[h2];rfl
   ·cases h
  ·cases h
 |binOp bop t x y yt=>
  have hbig:(fpO E.Q (opnd E.gl st.s) nid (.binOp bop t x y yt)).big=false:=by simp only[fpO];split<;>rfl
  simp only[opK]at h;split at h
  ·rename_i c v hv;exact mores hv h hbig (fun _ e=>by cases e) (fun st' T k=>rfl)
  ·rename_i c o hv;rcases moreA_row hv with⟨_,_,_,e⟩|⟨_,_,_,e⟩<;>cases e
  ·rename_i hm;split at h
   ·rename_i c v hv;obtain⟨rfl,h⟩:=zo h;exact other hv h hbig hm (fun st' T k=>rfl)
   ·cases h
 |range t x=>simp only[opK]at h;cases h
 |next x b=>
  cases b with
  |true=>simp only[opK]at h;cases h
  |false=>
   simp only[opK]at h;split at h
   ·rename_i hv;cases hv
   ·rename_i hv;cases hv
   ·split at h
    ·rename_i c v hv;cases hv
    ·cases h
 |_=>
  simp only[opK]at h;split at h
  ·rename_i hv;cases hv
  ·rename_i hv;cases hv
  ·split at h
   ·rename_i c v hv;obtain⟨rfl,h⟩:=zo h;exact other hv h rfl rfl (fun st' T k=>rfl)
   ·cases h
end
end Go.Am
