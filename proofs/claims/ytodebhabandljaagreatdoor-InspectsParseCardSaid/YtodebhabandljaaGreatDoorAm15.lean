/-
  A part of the proof of the laws.
-/
import Derived.Test.YtodebhabandljaaGreatDoorAm12
namespace Go.Am
open Go Go.RowKit Go.Vc
def jF(h:Heap):List (Nat×Option AO)->Heap
 |[]=>h
 |(i,o)::r=>jF (h.set i o) r
theorem zeh:∀{u:List (Nat×Option AO)}{h:Heap}{i:Nat},(∀x∈u,x.1≠i)->(jF h u)[i]? =h[i]?
 |[],_,_,_=>rfl
 |(j,o)::r,h,i,hi=>by rw[jF,zeh (fun x y=>hi x (mU _ y)),nF,if_neg (hi (j,o) mV)]
theorem Xm{u:List (Nat×Option AO)}{h:Heap}{i:Nat}(j:∀x∈u,x.1≠i):hget (jF h u) i=hget h i:=by unfold hget;rw[zeh j]
theorem zj3{i:Nat}{o:Option AO}:∀{u:List (Nat×Option AO)}{h:Heap},(∀x∈u,x.1≠i)->jF (h.set i o) u=(jF h u).set i o
 |[],_,_=>rfl
 |(j,p)::r,h,hi=>by rw[jF,jF,List.set_comm _ _ (fun e=>hi (j,p) mV e.symm),zj3 (fun x y=>hi x (mU _ y))]
theorem zgn:∀{u v:List (Nat×Option AO)}{h:Heap},(∀x∈u,∀y∈v,x.1≠y.1)->jF (jF h u) v=jF (jF h v) u
 |[],_,_,_=>rfl
 |(i,o)::r,v,h,hd=>by rw[jF,zgn (fun x B=>hd x (mU _ B)),zj3 (fun y j e=>hd (i,o) mV y j e.symm)];rfl
theorem YR:∀{ids:List Nat}{h ho:Heap},jx h ids ho=jF h (ids.zip ho)
 |[],h,ho=>by simp[jx,jF]
 |i::r,h,[]=>by simp[jx,jF]
 |i::r,h,o::s=>by rw[jx,YR];rfl
section
variable {E : Env}
def Eff(E:Env)(nid:Nat)(op:Op)(st:St)(v:AV)(u:List (Nat×Option AO)):Prop:=∀(T:Type)(k:AV->St->Option T),opK E true nid op st k=k v ⟨st.s,jF st.h u⟩
theorem ZP{j:List AV}{h:Heap}{f:FuncId}{T:Type}{k:Out->Option T}{r:T}:∀{Γ:List Con},Y7 j h k f Γ=some r->∃o,k o=some r/\((∀C∈Γ,C.f=f->QuietC C)->o.h=h)/\∀(T':Type)(y:Out->Option T'),Y7 j h y f Γ=y o
 |[],e=>by cases e
 |C::Γ,e=>by
  simp only[Y7]at e;split at e
  ·rename_i O;split at e
   ·rename_i x U;obtain⟨b,B,I,H⟩:=C.hgo _ _ _ _ e;exact⟨_,I,fun J=>J C mV (kV O) _ _ _ _ U B,fun T' y=>by simp only[Y7,O,U];exact H T' _⟩
   ·rename_i U;obtain⟨o,B,H,I⟩:=ZP e;exact⟨o,B,fun J=>H fun C Z=>J C (mU _ Z),fun T' y=>by simp only[Y7,O,U];exact I T' y⟩
  ·rename_i O;obtain⟨o,B,H,I⟩:=ZP e;exact⟨o,B,fun J=>H fun C Z=>J C (mU _ Z),fun T' y=>by simp only[Y7,O];exact I T' y⟩
mutual
theorem zgD{σ τ:Nat->Option Nat}(H:∀i j,σ i=some j->τ j=some i):∀(v y:AV),jG σ v=some y->jG τ y=some v
 |.ptr i o,y,h=>by
  simp only[jG]at h;split at h
  ·rename_i j B;cases h;simp only[jG,H _ _ B]
  ·cases h
 |.ep i z n o,y,h=>by
  simp only[jG]at h;split at h
  ·rename_i j B;cases h;simp only[jG,H _ _ B]
  ·cases h
 |.rw i,y,h=>by
  simp only[jG]at h;split at h
  ·rename_i j B;cases h;simp only[jG,H _ _ B]
  ·cases h
 |.rwp i,y,h=>by
  simp only[jG]at h;split at h
  ·rename_i j B;cases h;simp only[jG,H _ _ B]
  ·cases h
 |.rwf i,y,h=>by
  simp only[jG]at h;split at h
  ·rename_i j B;cases h;simp only[jG,H _ _ B]
  ·cases h
 |.rws i z J n,y,h=>by
  simp only[jG]at h;split at h
  ·rename_i j B;cases h;simp only[jG,H _ _ B]
  ·cases h
 |.rwc i z J n,y,h=>by
  simp only[jG]at h;split at h
  ·rename_i j B;cases h;simp only[jG,H _ _ B]
  ·cases h
 |.map i,y,h=>by
  simp only[jG]at h;split at h
  ·rename_i j B;cases h;simp only[jG,H _ _ B]
  ·cases h
 |.fn f first cap,y,h=>by
  simp only[jG]at h;split at h
  ·rename_i a b ha I;cases h;simp only[jG,qE H _ _ ha,qE H _ _ I]
  ·cases h
 |.agg cs,y,h=>by
  simp only[jG]at h;split at h
  ·rename_i a ha;cases h;simp only[jG,qE H _ _ ha]
  ·cases h
 |.tup cs,y,h=>by
  simp only[jG]at h;split at h
  ·rename_i a ha;cases h;simp only[jG,qE H _ _ ha]
  ·cases h
 |.iface t v,y,h=>by
  simp only[jG]at h;split at h
  ·rename_i a ha;cases h;simp only[jG,zgD H _ _ ha]
  ·cases h
 |.undef,y,h=>by cases h;rfl
 |.int k n,y,h=>by cases h;rfl
 |.bool b,y,h=>by cases h;rfl
 |.str l,y,h=>by cases h;rfl
 |.nilp,y,h=>by cases h;rfl
 |.nilf,y,h=>by cases h;rfl
 |.nili,y,h=>by cases h;rfl
 |.nilm,y,h=>by cases h;rfl
 |.nils,y,h=>by cases h;rfl
 |.rp v,y,h=>by cases h;rfl
 |.pos k,y,h=>by cases h;rfl
 |.rob f l,y,h=>by cases h;rfl
 |.roi f k l,y,h=>by cases h;rfl
 |.ros f l,y,h=>by cases h;rfl
 |.rov f z l,y,h=>by cases h;rfl
 |.fns n fs,y,h=>by cases h;rfl
theorem qE{σ τ:Nat->Option Nat}(H:∀i j,σ i=some j->τ j=some i):∀(l y:List AV),Qa σ l=some y->Qa τ y=some l
 |[],y,h=>by cases h;rfl
 |v::r,y,h=>by
  simp only[Qa]at h;split at h
  ·rename_i a b ha B;cases h;simp only[Qa,zgD H _ _ ha,qE H _ _ B]
  ·cases h
end
theorem zpR{σ τ:Nat->Option Nat}(y:∀i j,σ i=some j->τ j=some i){o o':AO}(h:Z0 σ o=some o'):Z0 τ o'=some o:=by
 cases o with
 |cells T cs=>
  simp only[Z0]at h;split at h
  ·rename_i a ha;cases h;simp only[Z0,qE y _ _ ha]
  ·cases h
 |gens T B z n cs=>
  simp only[Z0]at h;split at h
  ·rename_i a ha;cases h;simp only[Z0,qE y _ _ ha]
  ·cases h
 |_=>cases h;rfl
theorem zr4{h:Heap}{i:Nat}{o:AO}(ho:hget h i=some o):h.set i (some o)=h:=by
 unfold hget at ho;split at ho
 ·rename_i q y;cases ho;refine uAI fun j=>?_
  rw[nF];split
  ·rename_i e;subst e;rw[y,if_pos (kX.1 y).1]
  ·rfl
 ·cases ho
theorem zbd{σ τ:Nat->Option Nat}(B:∀i j,σ i=some j->τ j=some i){h:Heap}:∀{acc:List Nat}{hv ho:Heap},YW σ h acc=some hv->zhV τ hv=some ho->∀more,jx h (acc++more) ho=h
 |[],hv,ho,h1,h2,more=>by cases h1;cases h2;cases more<;>rfl
 |i::r,hv,ho,h1,h2,more=>by
  simp only[YW]at h1;split at h1
  ·rename_i o v J I;split at h1
   ·rename_i o' ho';cases h1;simp only[zhV]at h2;split at h2
    ·rename_i o2 s y H;cases h2;rw[zpR B ho']at y;cases y;rw[nQ,jx,zr4 J];exact zbd B I H more
    ·cases h2
   ·cases h1
  ·cases h1
theorem zhg{nid f:Nat}{y:List AV}{st:St}{T:Type}{k:AV->St->Option T}{r:T}(h:yc E true nid f y st k=some r):
  ∃(v:AV)(ids:List Nat)(ho:Heap),k v ⟨st.s,jF st.h (ids.zip ho)⟩=some r/\(idsL y=[]->∀i∈ids,i∈newIds nid jT)/\((∀C∈E.Γ,C.f=f->QuietC C)->jF st.h (ids.zip ho)=st.h)/\
   ∀(st':St),(idsL y≠[]->st'.h=st.h)->∀(T':Type)(k':AV->St->Option T'),yc E true nid f y st' k'=k' v ⟨st'.s,jF st'.h (ids.zip ho)⟩:=by
 unfold yc at h;simp only[]at h;generalize hacc:reach st.h 1000 (idsL y) []=acc at h;split at h
 ·rename_i args' hv h1 h2 U;obtain⟨o,J,h6,h5⟩:=ZP h;split at J
  ·rename_i v ho g1 g2 g3 O;split at J
   ·rename_i hg;refine⟨v,acc++newIds nid (o.h.length-acc.length),ho,by rw[<-YR];exact J,fun B i hi=>?_,fun hq=>?_,fun st' I T' k'=>?_⟩
    ·rw[B]at hacc;simp only[reach]at hacc;subst hacc;have:=mI g2;simp only[nJ,uAC,Nat.sub_zero,newIds,nZ,List.mem_range]at hi⊢;obtain⟨x,hx,rfl⟩:=hi;exact⟨x,by simp at this;omega,rfl⟩
    ·have hoh:=h6 hq;rw[hoh]at O;rw[<-YR];refine zbd (fun i j hj=>?_) U O _;have e:=Yv hj;have Z:=(kX.1 e).1;unfold Kh;rw[show Nat.blt j acc.length=true by rw[Nat.blt_eq];exact Z];exact e
    ·have H:reach st'.h 1000 (idsL y) []=acc:=by
      by_cases B:idsL y=[]
      ·rw[B]at hacc⊢;simp only[reach]at hacc⊢;exact hacc
      ·rw[I B];exact hacc
     have hv':YW (fun i=>qX i acc 0) st'.h acc=some hv:=by
      by_cases B:idsL y=[]
      ·rw[B]at hacc;simp only[reach]at hacc;subst hacc;exact U
      ·rw[I B];exact U
     unfold yc;simp only[];rw[H,h1,h2,hv'];simp only[];rw[h5 T'];simp only[g1,g2,g3,O,hg];rw[YR]
   ·cases J
  ·cases J
 ·cases h
theorem zbb{n:Int}{nid:Nat}{j:List AV}{st:St}{T:Type}{k:AV->St->Option T}{r:T}{b:Bool}:∀{fs:List FuncId}{i:Nat},Jy E b nid n j st k i fs=some r->
  ∃f,yc E b nid f j st k=some r/\∀(st':St)(T':Type)(y:AV->St->Option T'),Jy E b nid n j st' y i fs=yc E b nid f j st' y
 |[],i,h=>by cases h
 |f::fs,i,h=>by
  unfold Jy at h;by_cases B:n=(i:Int)
  ·rw[decide_eq_true B]at h;exact⟨f,h,fun st' T' y=>by unfold Jy;rw[decide_eq_true B];rfl⟩
  ·rw[decide_eq_false B]at h;obtain⟨g,H,I⟩:=zbb (fs:=fs) (i:=i+1) h;exact⟨g,H,fun st' T' y=>by unfold Jy;rw[decide_eq_false B];exact I st' T' y⟩
theorem KE{ev j:Operand->AV}:∀{l:List (Nat×Operand)},(∀p∈l,j p.2=ev p.2)->X0 j l=X0 ev l
 |[],_=>rfl
 |(i,x)::r,h=>by rw[X0,X0,h (i,x) mV,KE (fun p hp=>h p (mU _ hp))]
theorem zmK{h h':Heap}{v:AV}(j:∀i∈idsV v,hget h' i=hget h i):ziR h' v=ziR h v:=by
 cases v with
 |rw i=>simp only[ziR,j i (by simp[idsV])]
 |rwp i=>simp only[ziR,j i (by simp[idsV])]
 |_=>rfl
theorem zkL{P:Program}{h h':Heap}{t:TypeId}{v:AV}(j:∀i∈idsV v,hget h' i=hget h i):WE P h' t v=WE P h t v:=by
 cases v with
 |ptr i o=>simp only[WE,j i (by simp[idsV])]
 |ep i z n o=>
  cases o with
  |zero=>simp only[WE,j i (by simp[idsV])]
  |succ o=>simp only[WE,j i (by simp[idsV])]
 |_=>rfl
theorem zhF{P:Program}{h h':Heap}{t:TypeId}{v x:AV}(j:∀i∈idsV v,hget h' i=hget h i):JC P h' t v x=JC P h t v x:=by
 cases v with
 |ptr i o=>simp only[JC,j i (by simp[idsV])]
 |ep i z n o=>
  cases o with
  |zero=>simp only[JC,j i (by simp[idsV])]
  |succ o=>simp only[JC,j i (by simp[idsV])]
 |_=>rfl
theorem Xn{T:TypeId}{y:Bool}{z B m off k:Nat}{n:Int}{cs:List AV}{x:AV}{i j:Nat}{c:Bool}{o:AO}(e:Qe T y z B m n off k cs x i=some (c,j,o)):j=i:=by
 unfold Qe at e;split at e
 ·simp only[Option.some.injEq,Prod.mk.injEq]at e;exact e.2.1.symm
 ·cases e
theorem zpC{T:TypeId}{z y k:Nat}{n:Int}{l:List AV}{x:AV}{i j:Nat}{c:Bool}{o:AO}(e:zej T z y l n k x i=some (c,j,o)):j=i:=by
 unfold zej at e;split at e
 ·split at e
  ·simp only[Option.some.injEq,Prod.mk.injEq]at e;exact e.2.1.symm
  ·cases e
 ·cases e
theorem zgq{P:Program}{h:Heap}{t:TypeId}{v x:AV}{c:Bool}{i:Nat}{o:AO}(e:JC P h t v x=some (c,i,o)):i∈idsV v:=by
 unfold JC at e;split at e
 ·split at e
  ·split at e
   ·simp only[Option.some.injEq,Prod.mk.injEq]at e;simp[idsV,e.2.1]
   ·cases e
  ·cases e
 ·split at e
  ·simp only[Option.some.injEq,Prod.mk.injEq]at e;simp[idsV,e.2.1]
  ·split at e
   ·simp only[Option.some.injEq,Prod.mk.injEq]at e;simp[idsV,e.2.1]
   ·cases e
  ·simp only[Option.some.injEq,Prod.mk.injEq]at e;simp[idsV,e.2.1]
  ·split at e
   ·rename_i j;cases e;have:=zpC j;simp[idsV,this]
   ·have:=Xn e;simp[idsV,this]
  ·have:=Xn e;simp[idsV,this]
  ·cases e
 ·split at e
  ·have:=Xn e;simp[idsV,this]
  ·have:=Xn e;simp[idsV,this]
  ·cases e
 ·cases e
theorem zkx{P:Program}{Q:List FuncId}{h h':Heap}{ev I:Operand->AV}{nid:Nat}{op:Op}(B:∀x∈op.operands,I x=ev x)(hh:∀i∈(fpO Q ev nid op).r,hget h' i=hget h i):
  yl P h' I op=yl P h ev op:=by
 cases op with
 |move x=>simp only[yl,B x (by simp[Op.operands])]
 |assign x=>simp only[yl,B x (by simp[Op.operands])]
 |binOp op t x y u=>simp only[yl,B x (by simp[Op.operands]),B y (by simp[Op.operands])]
 |unOp op t x=>simp only[yl,B x (by simp[Op.operands])]
 |convert s d x=>simp only[yl,B x (by simp[Op.operands])]
 |extract x i=>simp only[yl,B x (by simp[Op.operands])]
 |nilCheck x=>simp only[yl,B x (by simp[Op.operands])]
 |makeFunc f first cap=>
  have e1:first.toList.map I=first.toList.map ev:=uAk fun x U=>B x (by simp[Op.operands];exact .inl (by simpa using U))
  have e2:cap.toList.map I=cap.toList.map ev:=uAk fun x U=>B x (by simp[Op.operands];exact .inr (by simpa using U))
  cases f<;>simp only[yl,e1,e2]
 |index t x i=>simp only[yl,B x (by simp[Op.operands]),B i (by simp[Op.operands])]
 |slice t x lo O mx=>
  have e1:lo.map I=lo.map ev:=by cases lo with|none=>rfl|some y=>simp[B y (by simp[Op.operands])]
  have e2:O.map I=O.map ev:=by cases O with|none=>rfl|some y=>simp[B y (by simp[Op.operands])]
  cases mx<;>simp only[yl,B x (by simp[Op.operands]),e1,e2]
 |fieldAddr s x f=>simp only[yl,B x (by simp[Op.operands])]
 |field s x f=>simp only[yl,B x (by simp[Op.operands])]
 |indexAddr t x i=>
  have U:=B x (by simp[Op.operands]);have O:=B i (by simp[Op.operands]);have hh:∀i∈idsV (un (ev x)),hget h' i=hget h i:=by rw[qR];exact hh
  simp only[yl,U,O];generalize un (ev x)=v at hh;generalize P.underlying t=d;cases d with
  |none=>rfl
  |some d=>
   cases d with
   |slice e=>
    cases v with
    |rw j=>cases ev i with
     |int k n=>simp only[hh j (by simp[idsV])]
     |_=>rfl
    |_=>cases ev i<;>rfl
   |array n e=>
    cases v with
    |rp v=>cases v<;>cases ev i<;>first|rfl|(rename_i nn;cases nn<;>rfl)
    |_=>cases ev i<;>first|rfl|(rename_i nn;cases nn<;>rfl)
   |_=>rfl
 |build t J=>
  have e:X0 I J.toList=X0 ev J.toList:=KE fun p hp=>B p.2 (by
   simp only[Op.operands];simp only[List.mem_toArray,nZ];exact⟨p,hp,rfl⟩)
  simp only[yl,e]
 |call c=>
  obtain⟨callee,H,ats⟩:=c;cases callee with
  |builtin b=>
   have Z:∀i∈idsL (H.toList.map ev),hget h' i=hget h i:=by cases b<;>exact hh
   cases b with
   |len=>
    simp only[yl];cases hat:ats.toList with
    |nil=>rfl
    |cons t r=>
     cases r with
     |cons _ _=>rfl
     |nil=>
      cases hal:H.toList with
      |nil=>rfl
      |cons x s=>
       cases s with
       |cons _ _=>rfl
       |nil=>
        have U:=B x (by simp only[Op.operands,Call.operands];simp;exact by simpa using(show x∈H.toList by rw[hal];simp));have hl:ziR h' (un (ev x))=ziR h (un (ev x)):=zmK fun i O=>Z i (by rw[qR]at O;rw[hal];simp[idsL,O])
        simp only[U];generalize P.underlying t=d;cases d with
        |none=>rfl
        |some d=>
         cases d with
         |slice e=>simp only[hl]
         |string=>cases un (ev x)<;>rfl
         |_=>rfl
   |cap=>
    simp only[yl];cases hat:ats.toList with
    |nil=>rfl
    |cons t r=>
     cases r with
     |cons _ _=>rfl
     |nil=>
      cases hal:H.toList with
      |nil=>rfl
      |cons x s=>
       cases s with
       |cons _ _=>rfl
       |nil=>
        have U:=B x (by simp only[Op.operands,Call.operands];simp;exact by simpa using(show x∈H.toList by rw[hal];simp));have hl:∀i∈idsV (ev x),hget h' i=hget h i:=fun i O=>Z i (by rw[hal];simp[idsL,O])
        simp only[U];generalize P.underlying t=d;cases d with
        |none=>rfl
        |some d=>
         cases d with
         |slice e=>
          generalize ev x=v at hl;cases v with
          |rwp i=>simp only[hl i (by simp[idsV])]
          |rwf i=>simp only[hl i (by simp[idsV])]
          |rob b l=>cases b<;>rfl
          |roi b k l=>cases b<;>rfl
          |ros b l=>cases b<;>rfl
          |rov b k l=>cases b<;>rfl
          |_=>rfl
         |_=>rfl
   |_=>rfl
  |value f=>rfl
  |invoke r m=>rfl
 |_=>rfl
theorem zah{h h':Heap}{v:AV}(j:∀i∈idsV v,hget h' i=hget h i):yk h' v=yk h v:=by
 cases v with
 |rw i=>simp only[yk,j i (by simp[idsV])]
 |rwp i=>simp only[yk,j i (by simp[idsV])]
 |rws i z c n=>
  rcases z with _|_|z
  ·rfl
  ·simp only[yk,j i (by simp[idsV])]
  ·rfl
 |_=>rfl
theorem zhK{h h':Heap}{z:Nat}{v:AV}{j y:Option AV}(hh:∀i∈idsV v,hget h' i=hget h i):Qg h' z v j y=Qg h z v j y:=by
 cases v with
 |rw i=>simp only[Qg,hh i (by simp[idsV])]
 |_=>rfl
theorem zlp{h h':Heap}{z:Nat}{v m:AV}{j y:Option AV}(hh:∀i∈idsV v,hget h' i=hget h i):zag h' z v j y m=zag h z v j y m:=by
 cases v with
 |rw i=>
  have e:=hh i (by simp[idsV]);unfold zag;split
  ·cases bdI 0 j with
   |none=>rfl
   |some a=>simp only[e]
  ·rfl
 |_=>(unfold zag;split<;>first|rfl|(cases bdI 0 j<;>rfl))
theorem Vx{ev j:Operand->AV}{y:Option Operand}(h:∀x,y=some x->j x=ev x):y.map j=y.map ev:=by
 cases y with
 |none=>rfl
 |some x=>rw[nY,nY,h x rfl]
theorem zkH{h h':Heap}{v:AV}(hh:∀i∈idsV v,hget h' i=hget h i):zby h' v=zby h v:=by
 cases v with
 |rw i=>simp only[zby,hh i (by simp[idsV])]
 |_=>rfl
theorem QD{P:Program}{Q:List FuncId}{h h':Heap}{ev H:Operand->AV}{nid:Nat}{op:Op}(B:∀x∈op.operands,H x=ev x)(hh:∀i∈(fpO Q ev nid op).r,hget h' i=hget h i):
  yq P h' H op=yq P h ev op:=by
 cases op with
 |convert s d x=>have I:=B x (by simp[Op.operands]);have hb:yk h' (un (ev x))=yk h (un (ev x)):=zah (by rw[qR];exact hh);have hm:zby h' (un (ev x))=zby h (un (ev x)):=zkH (by rw[qR];exact hh);simp only[yq,jR,I,hb,hm]
 |slice t x O U mx=>
  have I:=B x (by simp[Op.operands]);have h1:O.map (fun x=>un (H x))=O.map (fun x=>un (ev x)):=Vx fun y J=>congrArg un (B y (by simp[Op.operands,J]))
  have h2:U.map (fun x=>un (H x))=U.map (fun x=>un (ev x)):=Vx fun y J=>congrArg un (B y (by simp[Op.operands,J]))
  cases mx with
  |none=>
   have hs:∀z,Qg h' z (un (ev x)) (O.map fun x=>un (ev x)) (U.map fun x=>un (ev x))=Qg h z (un (ev x)) (O.map fun x=>un (ev x)) (U.map fun x=>un (ev x)):=fun z=>zhK (by rw[qR];exact hh)
   simp only[yq,jR,I,h1,h2,hs]
  |some m=>
   have h3:=B m (by simp[Op.operands]);have hs:∀z,zag h' z (un (ev x)) (O.map fun x=>un (ev x)) (U.map fun x=>un (ev x)) (un (ev m))=zag h z (un (ev x)) (O.map fun x=>un (ev x)) (U.map fun x=>un (ev x)) (un (ev m)):=fun z=>zlp (by rw[qR];exact hh)
   simp only[yq,jR,I,h1,h2,h3,hs]
 |call cl=>
  obtain⟨callee,j,ats⟩:=cl;cases callee with
  |builtin b=>
   cases b with
   |max=>
    have ho:∀x∈j.toList,H x=ev x:=fun x I=>B x (by simp only[Op.operands,Call.operands];simp;exact by simpa using I)
    rcases hal:j.toList with _|⟨x,_|⟨y,_|⟨z,_|⟨_,_⟩⟩⟩⟩<;>rw[hal]at ho
    ·simp only[yq,jR,hal]
    ·simp only[yq,jR,hal]
    ·simp only[yq,jR,hal,ho x (by simp),ho y (by simp)]
    ·simp only[yq,jR,hal,ho x (by simp),ho y (by simp),ho z (by simp)]
    ·simp only[yq,jR,hal]
   |min=>
    cases hal:j.toList with
    |nil=>simp only[yq,jR,hal]
    |cons x r=>
     cases r with
     |nil=>simp only[yq,jR,hal]
     |cons y q=>
      cases q with
      |cons _ _=>simp only[yq,jR,hal]
      |nil=>have I:=B x (by simp only[Op.operands,Call.operands];simp;exact by simpa using(show x∈j.toList by rw[hal];simp));have J:=B y (by simp only[Op.operands,Call.operands];simp;exact by simpa using(show y∈j.toList by rw[hal];simp));simp only[yq,jR,hal,I,J]
   |_=>rfl
  |_=>rfl
 |makeSlice t a b=>have ha:=B a (by simp[Op.operands]);have hb:=B b (by simp[Op.operands]);simp only[yq,jR,ha,hb]
 |binOp bop t x y yt=>
  have I:=B x (by simp[Op.operands]);have J:=B y (by simp[Op.operands]);have key:un (ev y)=.nils->zgB h' (un (ev x))=zgB h (un (ev x)):=fun Z=>by
   simp only[fpO,Z]at hh;cases hu:un (ev x)with
   |rw i=>rw[hu]at hh;simp only[zgB,hh i (by simp)]
   |_=>rfl
  simp only[yq,jR,I,J];by_cases Z:un (ev y)=.nils
  ·rw[key Z]
  ·cases hu:un (ev y)<;>first|rfl|exact absurd hu Z
 |_=>rfl
theorem XR{key:AV}{T:Type}{kont:Option (Nat×AV)->Option T}{r:T}:∀{l:List (AV×AV)}{i:Nat},Jw key kont l i=some r->
  ∃q,kont q=some r/\∀(T':Type)(j:Option (Nat×AV)->Option T'),Jw key j l i=j q
 |[],i,h=>⟨none,h,fun _ _=>rfl⟩
 |(x,v)::l,i,h=>by
  simp only[Jw]at h;split at h
  ·rename_i b B;cases b with
   |true=>exact⟨some (i,v),h,fun T' y=>by simp only[Jw,B,cond_true]⟩
   |false=>obtain⟨q,H,I⟩:=XR (l:=l) (i:=i+1) h;exact⟨q,H,fun T' y=>by simp only[Jw,B,cond_false];exact I T' y⟩
  ·cases h
theorem QF{h h':Heap}{v:AV}(hh:∀i∈idsV v,hget h' i=hget h i):qZ h' v=qZ h v:=by
 cases v with
 |map i=>simp only[qZ,hh i (by simp[idsV])]
 |_=>rfl
theorem WD{h:Heap}{v:AV}{i:Nat}{l:List (AV×AV)}(e:qZ h v=some (i,l)):i∈idsV v:=by
 unfold qZ at e;split at e
 ·split at e
  ·cases e;simp[idsV]
  ·cases e
 ·cases e
theorem zlm{P:Program}{h h':Heap}{t:TypeId}{v x:AV}(hv:∀i∈idsV v,hget h' i=hget h i)(B:∀i∈idsV x,hget h' i=hget h i):zbT P h' t v x=zbT P h t v x:=by
 have y:zq9 h' x=zq9 h x:=by
  cases x with
  |str l=>rfl
  |_=>exact zah B
 have j:zno h' v=zno h v:=by
  cases v with
  |rw i=>simp only[zno,hv i (by simp[idsV])]
  |rws i z c n=>have:=hv i (by simp[idsV]);unfold zno;split<;>simp_all
  |_=>rfl
 simp only[zbT,y,j]
theorem zuN{P:Program}{h:Heap}{t:TypeId}{v x:AV}{q i:Nat}{o:AO}(e:zbT P h t v x=some (q,i,o)):i∈idsV v:=by
 unfold zbT at e;split at e
 ·split at e
  ·rename_i j _;cases e;unfold zno at j;split at j
   ·split at j
    ·simp only[Option.some.injEq,Prod.mk.injEq]at j;simp[idsV,j.1]
    ·cases j
   ·split at j
    ·simp only[Option.some.injEq,Prod.mk.injEq]at j;simp[idsV,j.1]
    ·cases j
   ·cases j
  ·cases e
 ·cases e
def Ext(h h':Heap):Prop:=∀i o,hget h i=some o->hget h' i=some o
theorem Ext.trans{a b c:Heap}(h:Ext a b)(k:Ext b c):Ext a c:=fun i o e=>k i o (h i o e)
theorem zaz{h h':Heap}(e:Ext h h'):∀(n:Nat)(j acc:List Nat),(∀i∈reach h n j acc,∃o,hget h i=some o)->reach h' n j acc=reach h n j acc
 |0,_,_,_=>by simp only[reach]
 |_+1,[],_,_=>by simp only[reach]
 |n+1,i::r,acc,hl=>by
  simp only[reach]at hl⊢;split
  ·rename_i y;simp only[y]at hl;exact zaz e n r acc hl
  ·rename_i y;simp only[y]at hl;cases hg:hget h i with
   |some o=>simp only[hg]at hl;simp only[e i o hg];exact zaz e n _ _ hl
   |none=>exfalso;simp only[hg]at hl;obtain⟨B,H⟩:=j4 h n r (acc++[i]);obtain⟨o,ho⟩:=hl i (by rw[H];simp);rw[hg]at ho;cases ho
theorem zgm{σ:Nat->Option Nat}{h h':Heap}(e:Ext h h'):∀{acc:List Nat}{v:Heap},YW σ h acc=some v->YW σ h' acc=some v
 |[],_,hv=>hv
 |i::r,v,hv=>by
  simp only[YW]at hv⊢;split at hv
  ·rename_i o y ho j;rw[e i o ho,zgm e j];exact hv
  ·cases hv
theorem zlt{nid f:Nat}{y:List AV}{st:St}{T:Type}{k:AV->St->Option T}{r:T}(h:yc E true nid f y st k=some r)(hq:∀C∈E.Γ,C.f=f->QuietC C):
  ∃v,k v st=some r/\∀(st':St),Ext st.h st'.h->∀(T':Type)(k':AV->St->Option T'),yc E true nid f y st' k'=k' v st':=by
 unfold yc at h;simp only[]at h;generalize hacc:reach st.h 1000 (idsL y) []=acc at h;split at h
 ·rename_i args' hv h1 h2 U;obtain⟨o,J,h6,h5⟩:=ZP h;have O:=h6 hq;split at J
  ·rename_i v ho g1 g2 g3 Z;have hlen:o.h.length=acc.length:=by rw[O];exact (ZT U).1
   have H:∀st':St,YW (fun i=>qX i acc 0) st'.h acc=some hv->jx st'.h (acc++newIds nid (o.h.length-acc.length)) ho=st'.h:=fun st' B=>by rw[O]at Z;refine zbd (fun i j hj=>?_) B Z _;have e:=Yv hj;have hlt:=(kX.1 e).1;unfold Kh;rw[show Nat.blt j acc.length=true by rw[Nat.blt_eq];exact hlt];exact e
   split at J
   ·rename_i hg;refine⟨v,by rw[H st U]at J;exact J,fun st' he T' k'=>?_⟩;have I:reach st'.h 1000 (idsL y) []=acc:=by
     rw[<-hacc];refine zaz he 1000 _ _ fun i hi=>?_
     rw[hacc]at hi;obtain⟨p,hp⟩:=uAp.1 hi;obtain⟨o,_,h7,_⟩:=(ZT U).2 p i hp;exact⟨o,h7⟩
    have B:=zgm he U;unfold yc;simp only[];rw[I,h1,h2,B];simp only[];rw[h5 T'];simp only[g1,g2,g3,Z,hg];rw[H st' B]
   ·cases J
  ·cases J
 ·cases h
theorem zpW{nid:Nat}{op:Op}{st:St}{T:Type}{k:AV->St->Option T}{r:T}(h:opK E true nid op st k=some r)(I:(fpO E.Q (opnd E.gl st.s) nid op).big=true)(H:(fpO E.Q (opnd E.gl st.s) nid op).r≠[]):
  ∃v,k v st=some r/\∀st':St,(∀x∈op.operands,opnd E.gl st'.s x=opnd E.gl st.s x)->Ext st.h st'.h->∀(T':Type)(U:AV->St->Option T'),opK E true nid op st' U=U v st':=by
 cases op with
 |call c=>
  obtain⟨callee,j,J⟩:=c;cases callee with
  |value f=>
   simp only[opK]at h;split at h
   ·rename_i g first cap O
    have Z:∀st':St,(∀x∈(Op.call ⟨.value f,j,J⟩).operands,opnd E.gl st'.s x=opnd E.gl st.s x)->∀(T:Type)(k:AV->St->Option T),opK E true nid (.call ⟨.value f,j,J⟩) st' k=yc E true nid g (first++j.toList.map (opnd E.gl st.s)++cap) st' k:=fun st' ha T k=>by
     have hf:=ha f (by simp[Op.operands,Call.operands]);have B:j.toList.map (opnd E.gl st'.s)=j.toList.map (opnd E.gl st.s):=uAk fun x hx=>ha x (by
      simp only[Op.operands,Call.operands];simp;exact .inr (by simpa using hx))
     simp only[opK,hf,O,B]
    have hq:memN g E.Q=true:=by
     cases hq:memN g E.Q with
     |true=>rfl
     |false=>exfalso;simp only[fpO,O,hq]at H;split at H<;>first|exact H rfl|(rename_i hh _;cases hh)
    obtain⟨v,h1,h2⟩:=zlt h (E.hQ g hq);exact⟨v,h1,fun st' ha he T' U=>by rw[Z st' ha];exact h2 st' he T' U⟩
   ·rename_i q fs O;exfalso;simp only[fpO,O]at H;split at H<;>exact H rfl
   ·cases h
  |builtin b=>cases b<;>cases I
  |_=>cases I
 |binOp bop t x y yt=>simp only[fpO]at I;split at I<;>cases I
 |_=>cases I
theorem zeE{P:Program}{h h':Heap}{j:TypeId}{x:AV}(y:∀i∈idsV x,hget h' i=hget h i):zmc P h' j x=zmc P h j x:=by
 unfold zmc;generalize P.underlying j=d;cases d with
 |none=>rfl
 |some d=>
  cases d with
  |slice e=>
   cases x with
   |rw i=>simp only[y i (by simp[idsV])]
   |rws i z c n=>simp only[y i (by simp[idsV])]
   |_=>rfl
  |string=>cases x<;>rfl
  |_=>rfl
theorem znO{P:Program}{h h':Heap}{t j:TypeId}{s x:AV}(y:∀i∈idsV x,hget h' i=hget h i):zu3 P h' t j s x=zu3 P h t j s x:=by
 unfold zu3;cases s with
 |rov b z l=>
  cases b with
  |false=>rfl
  |true=>
   have e:WX P h' t j (.rov true z l) x=WX P h t j (.rov true z l) x:=by
    have H:zb1 P h' t (.rov true z l)=zb1 P h t (.rov true z l):=by unfold zb1;rw[zeE (h:=h) (h':=h') fun i y=>by cases y]
    have B:zb1 P h' j x=zb1 P h j x:=by unfold zb1;rw[zeE y]
    unfold WX;rw[show fullV (.rov true z l)=some (.rov true z l)from rfl,B];cases P.underlying t with
    |none=>rfl
    |some d=>
     cases d with
     |slice e=>simp only[H]
     |_=>rfl
   simp only[e]
 |_=>rfl
theorem ziv{nid:Nat}{op:Op}{st:St}{T:Type}{k:AV->St->Option T}{r:T}(h:opK E true nid op st k=some r):
  ∃v u,k v ⟨st.s,jF st.h u⟩=some r/\((fpO E.Q (opnd E.gl st.s) nid op).big=false->∀x∈u,x.1∈(fpO E.Q (opnd E.gl st.s) nid op).w)/\
   ((fpO E.Q (opnd E.gl st.s) nid op).w=[]->((fpO E.Q (opnd E.gl st.s) nid op).big=false\/(fpO E.Q (opnd E.gl st.s) nid op).r≠[])->u=[])/\
   ∀st':St,(∀x∈op.operands,opnd E.gl st'.s x=opnd E.gl st.s x)->((fpO E.Q (opnd E.gl st.s) nid op).big=true->st'.h=st.h)->
    ((fpO E.Q (opnd E.gl st.s) nid op).big=false->∀i∈(fpO E.Q (opnd E.gl st.s) nid op).r,hget st'.h i=hget st.h i)->Eff E nid op st' v u:=by
 have nilu:∀{v:AV},k v st=some r->(∀st':St,(∀x∈op.operands,opnd E.gl st'.s x=opnd E.gl st.s x)->((fpO E.Q (opnd E.gl st.s) nid op).big=true->st'.h=st.h)->
    ((fpO E.Q (opnd E.gl st.s) nid op).big=false->∀i∈(fpO E.Q (opnd E.gl st.s) nid op).r,hget st'.h i=hget st.h i)->∀(T:Type)(k:AV->St->Option T),opK E true nid op st' k=k v st')->
   ∃v u,k v ⟨st.s,jF st.h u⟩=some r/\((fpO E.Q (opnd E.gl st.s) nid op).big=false->∀x∈u,x.1∈(fpO E.Q (opnd E.gl st.s) nid op).w)/\
   ((fpO E.Q (opnd E.gl st.s) nid op).w=[]->((fpO E.Q (opnd E.gl st.s) nid op).big=false\/(fpO E.Q (opnd E.gl st.s) nid op).r≠[])->u=[])/\
   ∀st':St,(∀x∈op.operands,opnd E.gl st'.s x=opnd E.gl st.s x)->((fpO E.Q (opnd E.gl st.s) nid op).big=true->st'.h=st.h)->
    ((fpO E.Q (opnd E.gl st.s) nid op).big=false->∀i∈(fpO E.Q (opnd E.gl st.s) nid op).r,hget st'.h i=hget st.h i)->Eff E nid op st' v u:=
  fun h1 h2=>⟨_,[],h1,by simp,fun _ _=>rfl,fun st' a b c T k=>h2 st' a b c T k⟩
 have J:∀{v:AV},yl E.P st.h (opnd E.gl st.s) op=some (true,v)->k v st=some r->(fpO E.Q (opnd E.gl st.s) nid op).big=false->
   yq E.P st.h (opnd E.gl st.s) op=none->
   (∀(st':St)(T:Type)(k:AV->St->Option T),opK E true nid op st' k=match yq E.P st'.h (opnd E.gl st'.s) op with
    |some (c,.val v)=>chk c (k v st')
    |some (c,.row o)=>chk c (k (newV E.gl op nid) ⟨st'.s,st'.h.set nid (some o)⟩)
    |none=>match yl E.P st'.h (opnd E.gl st'.s) op with|some (c,v)=>chk c (k v st')|none=>none)->
   ∃v u,k v ⟨st.s,jF st.h u⟩=some r/\((fpO E.Q (opnd E.gl st.s) nid op).big=false->∀x∈u,x.1∈(fpO E.Q (opnd E.gl st.s) nid op).w)/\
   ((fpO E.Q (opnd E.gl st.s) nid op).w=[]->((fpO E.Q (opnd E.gl st.s) nid op).big=false\/(fpO E.Q (opnd E.gl st.s) nid op).r≠[])->u=[])/\
   ∀st':St,(∀x∈op.operands,opnd E.gl st'.s x=opnd E.gl st.s x)->((fpO E.Q (opnd E.gl st.s) nid op).big=true->st'.h=st.h)->
    ((fpO E.Q (opnd E.gl st.s) nid op).big=false->∀i∈(fpO E.Q (opnd E.gl st.s) nid op).r,hget st'.h i=hget st.h i)->Eff E nid op st' v u:=by
  intro v h1 h2 h3 h5 h4;refine nilu h2 fun st' ha O hc T k=>?_
  rw[h4,QD (nid:=nid) ha (hc h3),h5,zkx (nid:=nid) ha (hc h3),h1];rfl
 have U:∀{c:Bool}{m:MA},yq E.P st.h (opnd E.gl st.s) op=some (c,m)->(match m with|.val v=>chk c (k v st)|.row o=>chk c (k (newV E.gl op nid) ⟨st.s,st.h.set nid (some o)⟩))=some r->(fpO E.Q (opnd E.gl st.s) nid op).big=false->
   (∀o,m=.row o->(fpO E.Q (opnd E.gl st.s) nid op).w=[nid])->
   (∀(st':St)(T:Type)(k:AV->St->Option T),opK E true nid op st' k=match yq E.P st'.h (opnd E.gl st'.s) op with
    |some (c,.val v)=>chk c (k v st')
    |some (c,.row o)=>chk c (k (newV E.gl op nid) ⟨st'.s,st'.h.set nid (some o)⟩)
    |none=>match yl E.P st'.h (opnd E.gl st'.s) op with|some (c,v)=>chk c (k v st')|none=>none)->
   ∃v u,k v ⟨st.s,jF st.h u⟩=some r/\((fpO E.Q (opnd E.gl st.s) nid op).big=false->∀x∈u,x.1∈(fpO E.Q (opnd E.gl st.s) nid op).w)/\
   ((fpO E.Q (opnd E.gl st.s) nid op).w=[]->((fpO E.Q (opnd E.gl st.s) nid op).big=false\/(fpO E.Q (opnd E.gl st.s) nid op).r≠[])->u=[])/\
   ∀st':St,(∀x∈op.operands,opnd E.gl st'.s x=opnd E.gl st.s x)->((fpO E.Q (opnd E.gl st.s) nid op).big=true->st'.h=st.h)->
    ((fpO E.Q (opnd E.gl st.s) nid op).big=false->∀i∈(fpO E.Q (opnd E.gl st.s) nid op).r,hget st'.h i=hget st.h i)->Eff E nid op st' v u:=by
  intro c m h1 h2 h3 h6 h4;cases m with
  |val v=>
   simp only at h2;obtain⟨rfl,h2⟩:=zm h2;refine nilu h2 fun st' ha O hc T k=>?_
   rw[h4,QD (nid:=nid) ha (hc h3),h1];rfl
  |row o=>
   have h6:=h6 o rfl;simp only at h2;obtain⟨rfl,h2⟩:=zm h2;refine⟨_,[(nid,some o)],h2,fun _ x hx=>?_,fun Z _=>?_,fun st' ha _ hc T k=>?_⟩
   ·simp only[mD]at hx;subst hx;rw[h6];simp
   ·rw[h6]at Z;cases Z
   ·rw[h4,QD (nid:=nid) ha (hc h3),h1];rfl
 cases op with
 |pick c a b=>
  simp only[opK]at h;split at h
  ·rename_i x hx;cases x with
   |true=>
    refine nilu h fun st' ha O hc T k=>?_
    simp only[opK,ha c (by simp[Op.operands]),ha a (by simp[Op.operands]),hx,cond_true]
   |false=>
    refine nilu h fun st' ha O hc T k=>?_
    simp only[opK,ha c (by simp[Op.operands]),ha b (by simp[Op.operands]),hx,cond_false]
  ·cases h
 |alloc t=>
  simp only[opK]at h;split at h
  ·rename_i cs hz;refine⟨_,[(nid,some (.cells t cs))],h,fun _ x hx=>?_,fun Z _=>by simp[fpO]at Z,fun st' _ _ _ T k=>?_⟩
   ·simp only[mD]at hx;subst hx;simp[fpO]
   ·simp only[opK,hz];rfl
  ·cases h
 |box t x=>
  simp only[opK]at h;split at h
  ·rename_i ho;refine⟨_,[(nid,some (.cells t (cellsA (opnd E.gl st.s x))))],h,fun _ x hx=>?_,fun Z _=>by simp[fpO]at Z,fun st' ha _ _ T k=>?_⟩
   ·simp only[mD]at hx;subst hx;simp[fpO]
   ·simp only[opK,ha x (by simp[Op.operands]),ho];rfl
  ·cases h
 |buildSlice t len parts=>
  simp only[opK]at h;split at h
  ·rename_i c o O;obtain⟨rfl,h⟩:=zm h;refine⟨_,[(nid,some o)],h,fun _ x hx=>?_,fun Z _=>by simp[fpO]at Z,fun st' ha _ _ T k=>?_⟩
   ·simp only[mD]at hx;subst hx;simp[fpO]
   ·have e:X0 (opnd E.gl st'.s) parts.toList=X0 (opnd E.gl st.s) parts.toList:=KE fun p hp=>ha p.2 (by
     simp only[Op.operands];simp only[List.mem_toArray,nZ];exact⟨p,hp,rfl⟩)
    simp only[opK,e,O];rfl
  ·cases h
 |load t x=>
  simp only[opK]at h;split at h
  ·rename_i c v hv;obtain⟨rfl,h⟩:=zm h;refine nilu h fun st' ha _ hc T k=>?_
   have e:=zkL (P:=E.P) (t:=t) (h:=st.h) (h':=st'.h) (v:=opnd E.gl st.s x) (hc rfl);simp only[opK,ha x (by simp[Op.operands]),e,hv];rfl
  ·cases h
 |store t x y=>
  simp only[opK]at h;split at h
  ·rename_i c i o hs;obtain⟨rfl,h⟩:=zm h;refine⟨_,[(i,some o)],h,fun _ z hz=>?_,fun Z _=>?_,fun st' ha _ hc T k=>?_⟩
   ·simp only[mD]at hz;subst hz;exact zgq hs
   ·have:=zgq hs;have Z:idsV (opnd E.gl st.s x)=[]:=Z;rw[Z]at this;cases this
   ·have e:=zhF (P:=E.P) (t:=t) (h:=st.h) (h':=st'.h) (v:=opnd E.gl st.s x) (x:=opnd E.gl st.s y) (hc rfl);simp only[opK,ha x (by simp[Op.operands]),ha y (by simp[Op.operands]),e,hs];rfl
  ·cases h
 |call c=>
  obtain⟨callee,B,ats⟩:=c;cases callee with
  |value f=>
   simp only[opK]at h;split at h
   ·rename_i g first cap hg
    obtain⟨v,ids,ho,h1,h2,h4,h3⟩:=zhg h;have hf':∀st':St,(∀x∈(Op.call ⟨.value f,B,ats⟩).operands,opnd E.gl st'.s x=opnd E.gl st.s x)->∀(T:Type)(k:AV->St->Option T),opK E true nid (.call ⟨.value f,B,ats⟩) st' k=yc E true nid g (first++B.toList.map (opnd E.gl st.s)++cap) st' k:=fun st' ha T k=>by
     have hf:=ha f (by simp[Op.operands,Call.operands]);have H:B.toList.map (opnd E.gl st'.s)=B.toList.map (opnd E.gl st.s):=uAk fun x hx=>ha x (by
      simp only[Op.operands,Call.operands];simp;exact .inr (by simpa using hx))
     simp only[opK,hf,hg,H]
    by_cases hn:idsL (first++B.toList.map (opnd E.gl st.s)++cap)=[]
    ·have I:fpO E.Q (opnd E.gl st.s) nid (.call ⟨.value f,B,ats⟩)=⟨[],newIds nid jT,false⟩:=by simp only[fpO,hg,hn]
     refine⟨v,ids.zip ho,h1,fun O x hx=>?_,fun Z _=>?_,fun st' ha O hc T k=>?_⟩
     ·rw[I];exact h2 hn x.1 (List.of_mem_zip (a:=x.1) (b:=x.2) hx).1
     ·rw[I]at Z;simp[newIds,jT]at Z
     ·rw[hf' st' ha];exact h3 st' (fun h=>(h hn).elim) T k
    ·cases hq:memN g E.Q with
     |true=>
      have I:fpO E.Q (opnd E.gl st.s) nid (.call ⟨.value f,B,ats⟩)=⟨[0],[],true⟩:=by simp only[fpO,hg,hq]
      have hsame:=h4 (E.hQ g hq);refine⟨v,[],by rw[hsame]at h1;exact h1,fun O=>?_,fun _ _=>rfl,fun st' ha O hc T k=>?_⟩
      ·rw[I]at O;cases O
      ·have hst:st'.h=st.h:=O (by rw[I]);rw[hf' st' ha,h3 st' (fun _=>hst) T k,hst,hsame];rfl
     |false=>
      have I:fpO E.Q (opnd E.gl st.s) nid (.call ⟨.value f,B,ats⟩)=⟨[],[],true⟩:=by simp only[fpO,hg,hq]
      refine⟨v,ids.zip ho,h1,fun O=>?_,fun _ O=>?_,fun st' ha O hc T k=>?_⟩
      ·rw[I]at O;cases O
      ·rw[I]at O;rcases O with O|O
       ·cases O
       ·exact (O rfl).elim
      ·rw[hf' st' ha];exact h3 st' (fun _=>O (by rw[I])) T k
   ·rename_i q fs hg;obtain⟨g,h,hN⟩:=zbb h;obtain⟨v,ids,ho,h1,h2,_,h3⟩:=zhg h;have I:fpO E.Q (opnd E.gl st.s) nid (.call ⟨.value f,B,ats⟩)=match idsL (B.toList.map (opnd E.gl st.s))with
     |[]=>⟨[],newIds nid jT,false⟩
     |_=>⟨[],[],true⟩:=by simp only[fpO,hg];cases idsL (List.map (opnd E.gl st.s) B.toList)<;>rfl
    refine⟨v,ids.zip ho,h1,fun O x hx=>?_,fun Z O=>?_,fun st' ha O hc T k=>?_⟩
    ·rw[I]at O⊢;split at O
     ·rename_i hn;simp only;exact h2 hn x.1 (List.of_mem_zip (a:=x.1) (b:=x.2) hx).1
     ·cases O
    ·rw[I]at Z O;split at O
     ·rename_i hn;rw[hn]at Z;simp[newIds,jT]at Z
     ·rcases O with O|O
      ·cases O
      ·exact (O rfl).elim
    ·have hf:=ha f (by simp[Op.operands,Call.operands]);have H:B.toList.map (opnd E.gl st'.s)=B.toList.map (opnd E.gl st.s):=uAk fun x hx=>ha x (by
      simp only[Op.operands,Call.operands];simp;exact .inr (by simpa using hx))
     simp only[opK,hf,hg,H];rw[hN];refine h3 st' (fun hn=>O ?_) T k;rw[I];split
     ·rename_i hn';exact absurd hn' hn
     ·rfl
   ·cases h
  |builtin b=>
   cases b with
   |append=>
    simp only[opK]at h;split at h
    ·contradiction
    ·rename_i t tx s x _ hats H;split at h
     ·rename_i cc v hv;have hids:idsL (B.toList.map (opnd E.gl st.s))=idsV (opnd E.gl st.s s)++(idsV (opnd E.gl st.s x)++[]):=by rw[H];rfl
      have I:fpO E.Q (opnd E.gl st.s) nid (.call ⟨.builtin .append,B,ats⟩)=⟨idsV (opnd E.gl st.s s)++(idsV (opnd E.gl st.s x)++[]),[],false⟩:=by simp only[fpO,hids]
      obtain⟨rfl,h⟩:=zm h;refine nilu h fun st' ha _ hc T k=>?_
      have hms:s∈B.toList:=by rw[H];simp
      have hmx:x∈B.toList:=by rw[H];simp
      have es:=ha s (by simp only[Op.operands,Call.operands];simp;exact by simpa using hms);have ex:=ha x (by simp only[Op.operands,Call.operands];simp;exact by simpa using hmx);have hh:=hc (by rw[I]);rw[I]at hh;simp only[opK,hats,H,es,ex];rw[znO (P:=E.P) (h:=st.h) (h':=st'.h) (fun i hi=>hh i (by simp[<-qR (v:=opnd E.gl st.s x),hi])),hv];exact za _
     ·cases h
    ·cases h
   |copy=>
    simp only[opK]at h;split at h
    ·rename_i t tx d x hats H;split at h
     ·rename_i q i o hs;have hid:=zuN hs;rw[qR]at hid;have hids:idsL (B.toList.map (opnd E.gl st.s))=idsV (opnd E.gl st.s d)++(idsV (opnd E.gl st.s x)++[]):=by rw[H];rfl
      have I:fpO E.Q (opnd E.gl st.s) nid (.call ⟨.builtin .copy,B,ats⟩)=⟨idsV (opnd E.gl st.s d)++(idsV (opnd E.gl st.s x)++[]),idsV (opnd E.gl st.s d)++(idsV (opnd E.gl st.s x)++[]),false⟩:=by simp only[fpO,hids]
      refine⟨_,[(i,some o)],h,fun _ z hz=>?_,fun Z _=>?_,fun st' ha _ hc T k=>?_⟩
      ·simp only[mD]at hz;subst hz;rw[I];exact nN _ hid
      ·rw[I]at Z;have Z:=(uAd.1 Z).1;rw[Z]at hid;cases hid
      ·rw[I]at hc;have hm:∀y∈B.toList,opnd E.gl st'.s y=opnd E.gl st.s y:=fun y hy=>ha y (by
        simp only[Op.operands,Call.operands];simp;exact by simpa using hy)
       have e:=zlm (P:=E.P) (t:=t) (h:=st.h) (h':=st'.h) (v:=un (opnd E.gl st.s d)) (x:=un (opnd E.gl st.s x)) (fun j hj=>hc rfl j (nN _ (by rwa [qR]at hj))) (fun j hj=>hc rfl j (uAj _ (nN _ (by rwa [qR]at hj))));simp only[opK,hats,H,hm d (by rw[H];simp),hm x (by rw[H];simp),e,hs];rfl
     ·cases h
    ·cases h
   |max=>
    simp only[opK]at h;split at h
    ·rename_i c v hv;exact U hv h rfl (fun _ e=>by cases e) (fun st' T k=>rfl)
    ·rename_i c o hv;rcases moreA_row hv with⟨_,_,_,e⟩|⟨_,_,_,e⟩<;>cases e
    ·rename_i hm;split at h
     ·rename_i c v hv;obtain⟨rfl,h⟩:=zm h;exact J hv h rfl hm (fun st' T k=>rfl)
     ·cases h
   |min=>
    simp only[opK]at h;split at h
    ·rename_i c v hv;exact U hv h rfl (fun _ e=>by cases e) (fun st' T k=>rfl)
    ·rename_i c o hv;rcases moreA_row hv with⟨_,_,_,e⟩|⟨_,_,_,e⟩<;>cases e
    ·rename_i hm;split at h
     ·rename_i c v hv;obtain⟨rfl,h⟩:=zm h;exact J hv h rfl hm (fun st' T k=>rfl)
     ·cases h
   |_=>
    simp only[opK]at h;split at h
    ·rename_i hv;cases hv
    ·rename_i hv;cases hv
    ·split at h
     ·rename_i c v hv;obtain⟨rfl,h⟩:=zm h;exact J hv h rfl rfl (fun st' T k=>rfl)
     ·cases h
  |invoke m n=>
   simp only[opK]at h;split at h
   ·rename_i hv;cases hv
   ·rename_i hv;cases hv
   ·split at h
    ·rename_i c v hv;obtain⟨rfl,h⟩:=zm h;exact J hv h rfl rfl (fun st' T k=>rfl)
    ·cases h
 |convert s d x=>
  simp only[opK]at h;split at h
  ·rename_i c v hv;exact U hv h rfl (fun _ _=>rfl) (fun st' T k=>rfl)
  ·rename_i c o hv;exact U hv h rfl (fun _ _=>rfl) (fun st' T k=>rfl)
  ·rename_i hm;split at h
   ·rename_i c v hv;obtain⟨rfl,h⟩:=zm h;exact J hv h rfl hm (fun st' T k=>rfl)
   ·cases h
 |makeSlice t x y=>
  simp only[opK]at h;split at h
  ·rename_i c v hv;exact U hv h rfl (fun _ _=>rfl) (fun st' T k=>rfl)
  ·rename_i c o hv;exact U hv h rfl (fun _ _=>rfl) (fun st' T k=>rfl)
  ·rename_i hm;split at h
   ·rename_i c v hv;obtain⟨rfl,h⟩:=zm h;exact J hv h rfl hm (fun st' T k=>rfl)
   ·cases h
 |slice t x lo hi mx=>
  simp only[opK]at h;split at h
  ·rename_i c v hv;exact U hv h rfl (fun _ e=>by cases e) (fun st' T k=>rfl)
  ·rename_i c o hv;rcases moreA_row hv with⟨_,_,_,e⟩|⟨_,_,_,e⟩<;>cases e
  ·rename_i hm;split at h
   ·rename_i c v hv;obtain⟨rfl,h⟩:=zm h;exact J hv h rfl hm (fun st' T k=>rfl)
   ·cases h
 |makeMap t rs=>
  simp only[opK]at h;have fin:k (.map nid) ⟨st.s,st.h.set nid (some (.mp []))⟩=some r->(∀st':St,(∀x∈(Op.makeMap t rs).operands,opnd E.gl st'.s x=opnd E.gl st.s x)->∀(T:Type)(k:AV->St->Option T),opK E true nid (.makeMap t rs) st' k=k (.map nid) ⟨st'.s,st'.h.set nid (some (.mp []))⟩)->
    ∃v u,k v ⟨st.s,jF st.h u⟩=some r/\((fpO E.Q (opnd E.gl st.s) nid (.makeMap t rs)).big=false->∀x∈u,x.1∈(fpO E.Q (opnd E.gl st.s) nid (.makeMap t rs)).w)/\
   ((fpO E.Q (opnd E.gl st.s) nid (.makeMap t rs)).w=[]->((fpO E.Q (opnd E.gl st.s) nid (.makeMap t rs)).big=false\/(fpO E.Q (opnd E.gl st.s) nid (.makeMap t rs)).r≠[])->u=[])/\
   ∀st':St,(∀x∈(Op.makeMap t rs).operands,opnd E.gl st'.s x=opnd E.gl st.s x)->((fpO E.Q (opnd E.gl st.s) nid (.makeMap t rs)).big=true->st'.h=st.h)->
    ((fpO E.Q (opnd E.gl st.s) nid (.makeMap t rs)).big=false->∀i∈(fpO E.Q (opnd E.gl st.s) nid (.makeMap t rs)).r,hget st'.h i=hget st.h i)->Eff E nid (.makeMap t rs) st' v u:=by
   intro h1 h2;refine⟨_,[(nid,some (.mp []))],h1,fun _ x hx=>?_,fun Z _=>by simp[fpO]at Z,fun st' ha _ _ T k=>?_⟩
   ·simp only[mD]at hx;subst hx;simp[fpO]
   ·rw[h2 st' ha T k];rfl
  split at h
  ·exact fin h fun st' _ T k=>by simp only[opK]
  ·rename_i x p0 k0 n0 ht hx0;refine fin h fun st' ha T k=>?_
   have hx1:=ha x (by simp[Op.operands]);have e:opnd E.gl st.s x=.int k0 n0:=by simpa using hx0
   simp only[opK,ht,nY,hx1,e]
  ·cases h
 |lookup t x ix ok=>
  simp only[opK]at h;split at h
  ·rename_i kt et i l ht hat;split at h
   ·rename_i z hk hz;have go:∀(q:Option (Nat×AV))(v:AV),(∀(T':Type)(kont':Option (Nat×AV)->Option T'),Jw (opnd E.gl st.s ix) kont' l 0=kont' q)->k v st=some r->
     (∀(T:Type)(k:AV->St->Option T)(st':St),(match q with|some (_,v)=>k (okV ok v true) st'|none=>k (okV ok z false) st')=k v st')->
     ∃v u,k v ⟨st.s,jF st.h u⟩=some r/\((fpO E.Q (opnd E.gl st.s) nid (.lookup t x ix ok)).big=false->∀y∈u,y.1∈(fpO E.Q (opnd E.gl st.s) nid (.lookup t x ix ok)).w)/\
   ((fpO E.Q (opnd E.gl st.s) nid (.lookup t x ix ok)).w=[]->((fpO E.Q (opnd E.gl st.s) nid (.lookup t x ix ok)).big=false\/(fpO E.Q (opnd E.gl st.s) nid (.lookup t x ix ok)).r≠[])->u=[])/\
   ∀st':St,(∀y∈(Op.lookup t x ix ok).operands,opnd E.gl st'.s y=opnd E.gl st.s y)->((fpO E.Q (opnd E.gl st.s) nid (.lookup t x ix ok)).big=true->st'.h=st.h)->
    ((
     fpO E.Q (opnd E.gl st.s) nid (.lookup t x ix ok)).big=false->∀i∈(fpO E.Q (opnd E.gl st.s) nid (.lookup t x ix ok)).r,hget st'.h i=hget st.h i)->Eff E nid (.lookup t x ix ok) st' v u:=by
     intro q v h2 hv hall;refine nilu hv fun st' ha _ hc T k=>?_
     have hloc:qZ st'.h (opnd E.gl st.s x)=qZ st.h (opnd E.gl st.s x):=QF (hc rfl);simp only[opK,ha x (by simp[Op.operands]),ha ix (by simp[Op.operands]),ht,hloc,hat,hk,hz];rw[h2];exact hall T k st'
    obtain⟨q,h1,h2⟩:=XR h;cases q with
    |none=>exact go none _ h2 h1 fun _ _ _=>rfl
    |some p=>exact go (some p) _ h2 h1 fun _ _ _=>rfl
   ·cases h
  ·cases h
 |mapUpdate t m x y=>
  simp only[opK]at h;split at h
  ·rename_i kt et i l ht hat;split at h
   ·rename_i hk hids;obtain⟨q,h1,h2⟩:=XR h;refine⟨_,[(i,some (.mp (mapPut l (opnd E.gl st.s x) (opnd E.gl st.s y) q)))],h1,fun _ z hz=>?_,fun Z _=>?_,fun st' ha _ hc T k=>?_⟩
    ·simp only[mD]at hz;subst hz;exact WD hat
    ·have:=WD hat;have Z:idsV (opnd E.gl st.s m)=[]:=Z;rw[Z]at this;cases this
    ·have hloc:qZ st'.h (opnd E.gl st.s m)=qZ st.h (opnd E.gl st.s m):=QF (hc rfl);simp only[opK,ha m (by simp[Op.operands]),ha x (by simp[Op.operands]),ha y (by simp[Op.operands]),ht,hloc,hat,hk,hids];rw[h2];rfl
   ·cases h
  ·cases h
 |insert t m x y=>
  simp only[opK]at h;split at h
  ·rename_i kt et i l ht hat;split at h
   ·rename_i hk hids;obtain⟨q,h1,h2⟩:=XR h;refine⟨_,[(i,some (.mp (mapPut l (opnd E.gl st.s x) (opnd E.gl st.s y) q)))],h1,fun _ z hz=>?_,fun Z _=>?_,fun st' ha _ hc T k=>?_⟩
    ·simp only[mD]at hz;subst hz;exact WD hat
    ·have:=WD hat;have Z:idsV (opnd E.gl st.s m)=[]:=Z;rw[Z]at this;cases this
    ·have hloc:qZ st'.h (opnd E.gl st.s m)=qZ st.h (opnd E.gl st.s m):=QF (hc rfl);simp only[opK,ha m (by simp[Op.operands]),ha x (by simp[Op.operands]),ha y (by simp[Op.operands]),ht,hloc,hat,hk,hids];rw[h2];rfl
   ·cases h
  ·cases h
 |binOp bop t x y yt=>
  have hbig:(fpO E.Q (opnd E.gl st.s) nid (.binOp bop t x y yt)).big=false:=by simp only[fpO];split<;>rfl
  simp only[opK]at h;split at h
  ·rename_i c v hv;exact U hv h hbig (fun _ e=>by cases e) (fun st' T k=>rfl)
  ·rename_i c o hv;rcases moreA_row hv with⟨_,_,_,e⟩|⟨_,_,_,e⟩<;>cases e
  ·rename_i hm;split at h
   ·rename_i c v hv;obtain⟨rfl,h⟩:=zm h;exact J hv h hbig hm (fun st' T k=>rfl)
   ·cases h
 |range t x=>simp only[opK]at h;cases h
 |next x b=>
  cases b with
  |true=>simp only[opK]at h;cases h
  |false=>
   simp only[opK]at h;split at h
   ·rename_i hv;cases hv
   ·rename_i hv;cases hv
   ·split at h
    ·rename_i c v hv;cases hv
    ·cases h
 |_=>
  simp only[opK]at h;split at h
  ·rename_i hv;cases hv
  ·rename_i hv;cases hv
  ·split at h
   ·rename_i c v hv;obtain⟨rfl,h⟩:=zm h;exact J hv h rfl rfl (fun st' T k=>rfl)
   ·cases h
end
end Go.Am
