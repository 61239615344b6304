/-
  A part of the proof of the laws.
-/
import Derived.Test.YtannhfbidakffaaGreatDoorAm12
namespace Go.Am
open Go Go.RowKit Go.Vc
def jR(h:Heap):List (Nat×Option AO)->Heap
 |[]=>h
 |(i,o)::r=>jR (h.set i o) r
theorem zg5:∀{u:List (Nat×Option AO)}{h:Heap}{i:Nat},(∀x∈u,x.1≠i)->(jR h u)[i]? =h[i]?
 |[],_,_,_=>rfl
 |(j,o)::r,h,i,hi=>by rw[jR,zg5 (fun x B=>hi x (nE _ B)),nL,if_neg (hi (j,o) nR)]
theorem Wy{u:List (Nat×Option AO)}{h:Heap}{i:Nat}(hi:∀x∈u,x.1≠i):hget (jR h u) i=hget h i:=by unfold hget;rw[zg5 hi]
theorem znH{i:Nat}{o:Option AO}:∀{u:List (Nat×Option AO)}{h:Heap},(∀x∈u,x.1≠i)->jR (h.set i o) u=(jR h u).set i o
 |[],_,_=>rfl
 |(j,p)::r,h,hi=>by rw[jR,jR,List.set_comm _ _ (fun e=>hi (j,p) nR e.symm),znH (fun x B=>hi x (nE _ B))]
theorem zjK:∀{u v:List (Nat×Option AO)}{h:Heap},(∀x∈u,∀y∈v,x.1≠y.1)->jR (jR h u) v=jR (jR h v) u
 |[],_,_,_=>rfl
 |(i,o)::r,v,h,hd=>by rw[jR,zjK (fun x B=>hd x (nE _ B)),znH (fun y j e=>hd (i,o) nR y j e.symm)];rfl
theorem Kz:∀{ids:List Nat}{h ho:Heap},jI h ids ho=jR h (ids.zip ho)
 |[],h,ho=>by simp[jI,jR]
 |i::r,h,[]=>by simp[jI,jR]
 |i::r,h,o::s=>by rw[jI,Kz];rfl
section
variable {E : Env}
def Eff(E:Env)(nid:Nat)(op:Op)(st:St)(v:AV)(u:List (Nat×Option AO)):Prop:=∀(T:Type)(k:AV->St->Option T),opK E true nid op st k=k v ⟨st.s,jR st.h u⟩
theorem J7{j:List AV}{h:Heap}{f:FuncId}{T:Type}{k:Out->Option T}{r:T}:∀{Γ:List Con},KT j h k f Γ=some r->∃o,k o=some r/\((∀C∈Γ,C.f=f->QuietC C)->o.h=h)/\∀(T':Type)(B:Out->Option T'),KT j h B f Γ=B o
 |[],e=>by cases e
 |C::Γ,e=>by
  simp only[KT]at e;split at e
  ·rename_i S;split at e
   ·rename_i x U;obtain⟨b,H,J,I⟩:=C.hgo _ _ _ _ e;exact⟨_,J,fun O=>O C nR (mE S) _ _ _ _ U H,fun T' B=>by simp only[KT,S,U];exact I T' _⟩
   ·rename_i U;obtain⟨o,H,I,J⟩:=J7 e;exact⟨o,H,fun O=>I fun C Y=>O C (nE _ Y),fun T' B=>by simp only[KT,S,U];exact J T' B⟩
  ·rename_i S;obtain⟨o,H,I,J⟩:=J7 e;exact⟨o,H,fun O=>I fun C Y=>O C (nE _ Y),fun T' B=>by simp only[KT,S];exact J T' B⟩
mutual
theorem zj4{σ τ:Nat->Option Nat}(I:∀i j,σ i=some j->τ j=some i):∀(v B:AV),jX σ v=some B->jX τ B=some v
 |.ptr i o,B,h=>by
  simp only[jX]at h;split at h
  ·rename_i j H;cases h;simp only[jX,I _ _ H]
  ·cases h
 |.ep i z n o,B,h=>by
  simp only[jX]at h;split at h
  ·rename_i j H;cases h;simp only[jX,I _ _ H]
  ·cases h
 |.rw i,B,h=>by
  simp only[jX]at h;split at h
  ·rename_i j H;cases h;simp only[jX,I _ _ H]
  ·cases h
 |.rwp i,B,h=>by
  simp only[jX]at h;split at h
  ·rename_i j H;cases h;simp only[jX,I _ _ H]
  ·cases h
 |.rwf i,B,h=>by
  simp only[jX]at h;split at h
  ·rename_i j H;cases h;simp only[jX,I _ _ H]
  ·cases h
 |.rws i z O n,B,h=>by
  simp only[jX]at h;split at h
  ·rename_i j H;cases h;simp only[jX,I _ _ H]
  ·cases h
 |.rwc i z O n,B,h=>by
  simp only[jX]at h;split at h
  ·rename_i j H;cases h;simp only[jX,I _ _ H]
  ·cases h
 |.map i,B,h=>by
  simp only[jX]at h;split at h
  ·rename_i j H;cases h;simp only[jX,I _ _ H]
  ·cases h
 |.fn f first cap,B,h=>by
  simp only[jX]at h;split at h
  ·rename_i a b ha J;cases h;simp only[jX,ZJ I _ _ ha,ZJ I _ _ J]
  ·cases h
 |.agg cs,B,h=>by
  simp only[jX]at h;split at h
  ·rename_i a ha;cases h;simp only[jX,ZJ I _ _ ha]
  ·cases h
 |.tup cs,B,h=>by
  simp only[jX]at h;split at h
  ·rename_i a ha;cases h;simp only[jX,ZJ I _ _ ha]
  ·cases h
 |.iface t v,B,h=>by
  simp only[jX]at h;split at h
  ·rename_i a ha;cases h;simp only[jX,zj4 I _ _ ha]
  ·cases h
 |.undef,B,h=>by cases h;rfl
 |.int k n,B,h=>by cases h;rfl
 |.bool b,B,h=>by cases h;rfl
 |.str l,B,h=>by cases h;rfl
 |.nilp,B,h=>by cases h;rfl
 |.nilf,B,h=>by cases h;rfl
 |.nili,B,h=>by cases h;rfl
 |.nilm,B,h=>by cases h;rfl
 |.nils,B,h=>by cases h;rfl
 |.rp v,B,h=>by cases h;rfl
 |.pos k,B,h=>by cases h;rfl
 |.rob f l,B,h=>by cases h;rfl
 |.roi f k l,B,h=>by cases h;rfl
 |.ros f l,B,h=>by cases h;rfl
 |.rov f z l,B,h=>by cases h;rfl
 |.fns n fs,B,h=>by cases h;rfl
theorem ZJ{σ τ:Nat->Option Nat}(I:∀i j,σ i=some j->τ j=some i):∀(l B:List AV),KW σ l=some B->KW τ B=some l
 |[],B,h=>by cases h;rfl
 |v::r,B,h=>by
  simp only[KW]at h;split at h
  ·rename_i a b ha H;cases h;simp only[KW,zj4 I _ _ ha,ZJ I _ _ H]
  ·cases h
end
theorem zuK{σ τ:Nat->Option Nat}(B:∀i j,σ i=some j->τ j=some i){o o':AO}(h:XT σ o=some o'):XT τ o'=some o:=by
 cases o with
 |cells T cs=>
  simp only[XT]at h;split at h
  ·rename_i a ha;cases h;simp only[XT,ZJ B _ _ ha]
  ·cases h
 |gens T H z n cs=>
  simp only[XT]at h;split at h
  ·rename_i a ha;cases h;simp only[XT,ZJ B _ _ ha]
  ·cases h
 |_=>cases h;rfl
theorem zwB{h:Heap}{i:Nat}{o:AO}(ho:hget h i=some o):h.set i (some o)=h:=by
 unfold hget at ho;split at ho
 ·rename_i q B;cases ho;refine uAN fun j=>?_
  rw[nL];split
  ·rename_i e;subst e;rw[B,if_pos (mG.1 B).1]
  ·rfl
 ·cases ho
theorem zeh{σ τ:Nat->Option Nat}(H:∀i j,σ i=some j->τ j=some i){h:Heap}:∀{acc:List Nat}{hv ho:Heap},KF σ h acc=some hv->zls τ hv=some ho->∀more,jI h (acc++more) ho=h
 |[],hv,ho,h1,h2,more=>by cases h1;cases h2;cases more<;>rfl
 |i::r,hv,ho,h1,h2,more=>by
  simp only[KF]at h1;split at h1
  ·rename_i o v O I;split at h1
   ·rename_i o' ho';cases h1;simp only[zls]at h2;split at h2
    ·rename_i o2 s B J;cases h2;rw[zuK H ho']at B;cases B;rw[uAu,jI,zwB O];exact zeh H I J more
    ·cases h2
   ·cases h1
  ·cases h1
theorem zkM{nid f:Nat}{B:List AV}{st:St}{T:Type}{k:AV->St->Option T}{r:T}(h:yv E true nid f B st k=some r):
  ∃(v:AV)(ids:List Nat)(ho:Heap),k v ⟨st.s,jR st.h (ids.zip ho)⟩=some r/\(idsL B=[]->∀i∈ids,i∈newIds nid j8)/\((∀C∈E.Γ,C.f=f->QuietC C)->jR st.h (ids.zip ho)=st.h)/\
   ∀(st':St),(idsL B≠[]->st'.h=st.h)->∀(T':Type)(U:AV->St->Option T'),yv E true nid f B st' U=U v ⟨st'.s,jR st'.h (ids.zip ho)⟩:=by
 unfold yv at h;simp only[]at h;generalize hacc:reach st.h 1000 (idsL B) []=acc at h;split at h
 ·rename_i S hv h1 h2 h3;obtain⟨o,O,h6,h5⟩:=J7 h;split at O
  ·rename_i v ho g1 g2 g3 Z;split at O
   ·rename_i hg;refine⟨v,acc++newIds nid (o.h.length-acc.length),ho,by rw[<-Kz];exact O,fun H i hi=>?_,fun hq=>?_,fun st' J T' U=>?_⟩
    ·rw[H]at hacc;simp only[reach]at hacc;subst hacc;have:=mQ g2;simp only[uAH,uAO,Nat.sub_zero,newIds,uAb,List.mem_range]at hi⊢;obtain⟨x,hx,rfl⟩:=hi;exact⟨x,by simp at this;omega,rfl⟩
    ·have Y:=h6 hq;rw[Y]at Z;rw[<-Kz];refine zeh (fun i j hj=>?_) h3 Z _;have e:=XY hj;have hlt:=(mG.1 e).1;unfold zaV;rw[show Nat.blt j acc.length=true by rw[Nat.blt_eq];exact hlt];exact e
    ·have I:reach st'.h 1000 (idsL B) []=acc:=by
      by_cases H:idsL B=[]
      ·rw[H]at hacc⊢;simp only[reach]at hacc⊢;exact hacc
      ·rw[J H];exact hacc
     have hv':KF (fun i=>Ja i acc 0) st'.h acc=some hv:=by
      by_cases H:idsL B=[]
      ·rw[H]at hacc;simp only[reach]at hacc;subst hacc;exact h3
      ·rw[J H];exact h3
     unfold yv;simp only[];rw[I,h1,h2,hv'];simp only[];rw[h5 T'];simp only[g1,g2,g3,Z,hg];rw[Kz]
   ·cases O
  ·cases O
 ·cases h
theorem zed{n:Int}{nid:Nat}{j:List AV}{st:St}{T:Type}{k:AV->St->Option T}{r:T}{b:Bool}:∀{fs:List FuncId}{i:Nat},Qg E b nid n j st k i fs=some r->
  ∃f,yv E b nid f j st k=some r/\∀(st':St)(T':Type)(B:AV->St->Option T'),Qg E b nid n j st' B i fs=yv E b nid f j st' B
 |[],i,h=>by cases h
 |f::fs,i,h=>by
  unfold Qg at h;by_cases H:n=(i:Int)
  ·rw[decide_eq_true H]at h;exact⟨f,h,fun st' T' B=>by unfold Qg;rw[decide_eq_true H];rfl⟩
  ·rw[decide_eq_false H]at h;obtain⟨g,I,J⟩:=zed (fs:=fs) (i:=i+1) h;exact⟨g,I,fun st' T' B=>by unfold Qg;rw[decide_eq_false H];exact J st' T' B⟩
theorem zbn{ev j:Operand->AV}:∀{l:List (Nat×Operand)},(∀p∈l,j p.2=ev p.2)->zap j l=zap ev l
 |[],_=>rfl
 |(i,x)::r,h=>by rw[zap,zap,h (i,x) nR,zbn (fun p hp=>h p (nE _ hp))]
theorem zrq{h h':Heap}{v:AV}(hi:∀i∈idsV v,hget h' i=hget h i):zml h' v=zml h v:=by
 cases v with
 |rw i=>simp only[zml,hi i (by simp[idsV])]
 |rwp i=>simp only[zml,hi i (by simp[idsV])]
 |_=>rfl
theorem zoL{P:Program}{h h':Heap}{t:TypeId}{v:AV}(hi:∀i∈idsV v,hget h' i=hget h i):zcu P h' t v=zcu P h t v:=by
 cases v with
 |ptr i o=>simp only[zcu,hi i (by simp[idsV])]
 |ep i z n o=>
  cases o with
  |zero=>simp only[zcu,hi i (by simp[idsV])]
  |succ o=>simp only[zcu,hi i (by simp[idsV])]
 |_=>rfl
theorem zlh{P:Program}{h h':Heap}{t:TypeId}{v x:AV}(hi:∀i∈idsV v,hget h' i=hget h i):Qo P h' t v x=Qo P h t v x:=by
 cases v with
 |ptr i o=>simp only[Qo,hi i (by simp[idsV])]
 |ep i z n o=>
  cases o with
  |zero=>simp only[Qo,hi i (by simp[idsV])]
  |succ o=>simp only[Qo,hi i (by simp[idsV])]
 |_=>rfl
theorem Wz{T:TypeId}{B:Bool}{z H m off k:Nat}{n:Int}{cs:List AV}{x:AV}{i j:Nat}{c:Bool}{o:AO}(e:K6 T B z H m n off k cs x i=some (c,j,o)):j=i:=by
 unfold K6 at e;split at e
 ·simp only[Option.some.injEq,Prod.mk.injEq]at e;exact e.2.1.symm
 ·cases e
theorem zjT{P:Program}{h:Heap}{t:TypeId}{v x:AV}{c:Bool}{i:Nat}{o:AO}(e:Qo P h t v x=some (c,i,o)):i∈idsV v:=by
 unfold Qo at e;split at e
 ·split at e
  ·split at e
   ·simp only[Option.some.injEq,Prod.mk.injEq]at e;simp[idsV,e.2.1]
   ·cases e
  ·cases e
 ·split at e
  ·simp only[Option.some.injEq,Prod.mk.injEq]at e;simp[idsV,e.2.1]
  ·split at e
   ·simp only[Option.some.injEq,Prod.mk.injEq]at e;simp[idsV,e.2.1]
   ·cases e
  ·simp only[Option.some.injEq,Prod.mk.injEq]at e;simp[idsV,e.2.1]
  ·have:=Wz e;simp[idsV,this]
  ·have:=Wz e;simp[idsV,this]
  ·cases e
 ·split at e
  ·have:=Wz e;simp[idsV,this]
  ·have:=Wz e;simp[idsV,this]
  ·cases e
 ·cases e
theorem zoo{P:Program}{Q:List FuncId}{h h':Heap}{ev I:Operand->AV}{nid:Nat}{op:Op}(B:∀x∈op.operands,I x=ev x)(hh:∀i∈(fpO Q ev nid op).r,hget h' i=hget h i):
  yC P h' I op=yC P h ev op:=by
 cases op with
 |move x=>simp only[yC,B x (by simp[Op.operands])]
 |assign x=>simp only[yC,B x (by simp[Op.operands])]
 |binOp op t x y u=>simp only[yC,B x (by simp[Op.operands]),B y (by simp[Op.operands])]
 |unOp op t x=>simp only[yC,B x (by simp[Op.operands])]
 |convert s d x=>simp only[yC,B x (by simp[Op.operands])]
 |extract x i=>simp only[yC,B x (by simp[Op.operands])]
 |nilCheck x=>simp only[yC,B x (by simp[Op.operands])]
 |makeFunc f first cap=>
  have e1:first.toList.map I=first.toList.map ev:=uAk fun x O=>B x (by simp[Op.operands];exact .inl (by simpa using O))
  have e2:cap.toList.map I=cap.toList.map ev:=uAk fun x O=>B x (by simp[Op.operands];exact .inr (by simpa using O))
  cases f<;>simp only[yC,e1,e2]
 |index t x i=>simp only[yC,B x (by simp[Op.operands]),B i (by simp[Op.operands])]
 |slice t x lo hi mx=>
  have e1:lo.map I=lo.map ev:=by cases lo with|none=>rfl|some y=>simp[B y (by simp[Op.operands])]
  have e2:hi.map I=hi.map ev:=by cases hi with|none=>rfl|some y=>simp[B y (by simp[Op.operands])]
  cases mx<;>simp only[yC,B x (by simp[Op.operands]),e1,e2]
 |fieldAddr s x f=>simp only[yC,B x (by simp[Op.operands])]
 |field s x f=>simp only[yC,B x (by simp[Op.operands])]
 |indexAddr t x i=>
  have O:=B x (by simp[Op.operands]);have hi:=B i (by simp[Op.operands]);have hh:∀i∈idsV (un (ev x)),hget h' i=hget h i:=by rw[JO];exact hh
  simp only[yC,O,hi];generalize un (ev x)=v at hh;generalize P.underlying t=d;cases d with
  |none=>rfl
  |some d=>
   cases d with
   |slice e=>
    cases v with
    |rw j=>cases ev i with
     |int k n=>simp only[hh j (by simp[idsV])]
     |_=>rfl
    |_=>cases ev i<;>rfl
   |array n e=>
    cases v with
    |rp v=>cases v<;>cases ev i<;>first|rfl|(rename_i Z;cases Z<;>rfl)
    |_=>cases ev i<;>first|rfl|(rename_i Z;cases Z<;>rfl)
   |_=>rfl
 |build t J=>
  have e:zap I J.toList=zap ev J.toList:=zbn fun p hp=>B p.2 (by
   simp only[Op.operands];simp only[List.mem_toArray,uAb];exact⟨p,hp,rfl⟩)
  simp only[yC,e]
 |call c=>
  obtain⟨callee,H,U⟩:=c;cases callee with
  |builtin b=>
   have S:∀i∈idsL (H.toList.map ev),hget h' i=hget h i:=by cases b<;>exact hh
   cases b with
   |len=>
    simp only[yC];cases hat:U.toList with
    |nil=>rfl
    |cons t r=>
     cases r with
     |cons _ _=>rfl
     |nil=>
      cases hal:H.toList with
      |nil=>rfl
      |cons x s=>
       cases s with
       |cons _ _=>rfl
       |nil=>
        have O:=B x (by simp only[Op.operands,Call.operands];simp;exact by simpa using(show x∈H.toList by rw[hal];simp));have Y:zml h' (un (ev x))=zml h (un (ev x)):=zrq fun i hi=>S i (by rw[JO]at hi;rw[hal];simp[idsL,hi])
        simp only[O];generalize P.underlying t=d;cases d with
        |none=>rfl
        |some d=>
         cases d with
         |slice e=>simp only[Y]
         |string=>cases un (ev x)<;>rfl
         |_=>rfl
   |cap=>
    simp only[yC];cases hat:U.toList with
    |nil=>rfl
    |cons t r=>
     cases r with
     |cons _ _=>rfl
     |nil=>
      cases hal:H.toList with
      |nil=>rfl
      |cons x s=>
       cases s with
       |cons _ _=>rfl
       |nil=>
        have O:=B x (by simp only[Op.operands,Call.operands];simp;exact by simpa using(show x∈H.toList by rw[hal];simp));have Y:∀i∈idsV (ev x),hget h' i=hget h i:=fun i hi=>S i (by rw[hal];simp[idsL,hi])
        simp only[O];generalize P.underlying t=d;cases d with
        |none=>rfl
        |some d=>
         cases d with
         |slice e=>
          generalize ev x=v at Y;cases v with
          |rwp i=>simp only[Y i (by simp[idsV])]
          |rwf i=>simp only[Y i (by simp[idsV])]
          |rob b l=>cases b<;>rfl
          |roi b k l=>cases b<;>rfl
          |ros b l=>cases b<;>rfl
          |rov b k l=>cases b<;>rfl
          |_=>rfl
         |_=>rfl
   |_=>rfl
  |value f=>rfl
  |invoke r m=>rfl
 |_=>rfl
theorem zc7{h h':Heap}{v:AV}(hi:∀i∈idsV v,hget h' i=hget h i):yT h' v=yT h v:=by
 cases v with
 |rw i=>simp only[yT,hi i (by simp[idsV])]
 |rwp i=>simp only[yT,hi i (by simp[idsV])]
 |rws i z c n=>
  rcases z with _|_|z
  ·rfl
  ·simp only[yT,hi i (by simp[idsV])]
  ·rfl
 |_=>rfl
theorem zll{h h':Heap}{z:Nat}{v:AV}{j hi:Option AV}(hh:∀i∈idsV v,hget h' i=hget h i):K8 h' z v j hi=K8 h z v j hi:=by
 cases v with
 |rw i=>simp only[K8,hh i (by simp[idsV])]
 |_=>rfl
theorem zpJ{h h':Heap}{z:Nat}{v m:AV}{j hi:Option AV}(hh:∀i∈idsV v,hget h' i=hget h i):zc6 h' z v j hi m=zc6 h z v j hi m:=by
 cases v with
 |rw i=>
  have e:=hh i (by simp[idsV]);unfold zc6;split
  ·cases bdI 0 j with
   |none=>rfl
   |some a=>simp only[e]
  ·rfl
 |_=>(unfold zc6;split<;>first|rfl|(cases bdI 0 j<;>rfl))
theorem zck{ev j:Operand->AV}{y:Option Operand}(h:∀x,y=some x->j x=ev x):y.map j=y.map ev:=by
 cases y with
 |none=>rfl
 |some x=>rw[uAA,uAA,h x rfl]
theorem zoD{h h':Heap}{v:AV}(hh:∀i∈idsV v,hget h' i=hget h i):zeC h' v=zeC h v:=by
 cases v with
 |rw i=>simp only[zeC,hh i (by simp[idsV])]
 |_=>rfl
theorem Vp{P:Program}{Q:List FuncId}{h h':Heap}{ev H:Operand->AV}{nid:Nat}{op:Op}(B:∀x∈op.operands,H x=ev x)(hh:∀i∈(fpO Q ev nid op).r,hget h' i=hget h i):
  yK P h' H op=yK P h ev op:=by
 cases op with
 |convert s d x=>have I:=B x (by simp[Op.operands]);have Y:yT h' (un (ev x))=yT h (un (ev x)):=zc7 (by rw[JO];exact hh);have hm:zeC h' (un (ev x))=zeC h (un (ev x)):=zoD (by rw[JO];exact hh);simp only[yK,j7,I,Y,hm]
 |slice t x O hi mx=>
  have I:=B x (by simp[Op.operands]);have Z:O.map (fun x=>un (H x))=O.map (fun x=>un (ev x)):=zck fun y J=>congrArg un (B y (by simp[Op.operands,J]))
  have h2:hi.map (fun x=>un (H x))=hi.map (fun x=>un (ev x)):=zck fun y J=>congrArg un (B y (by simp[Op.operands,J]))
  cases mx with
  |none=>
   have U:∀z,K8 h' z (un (ev x)) (O.map fun x=>un (ev x)) (hi.map fun x=>un (ev x))=K8 h z (un (ev x)) (O.map fun x=>un (ev x)) (hi.map fun x=>un (ev x)):=fun z=>zll (by rw[JO];exact hh)
   simp only[yK,j7,I,Z,h2,U]
  |some m=>
   have h3:=B m (by simp[Op.operands]);have U:∀z,zc6 h' z (un (ev x)) (O.map fun x=>un (ev x)) (hi.map fun x=>un (ev x)) (un (ev m))=zc6 h z (un (ev x)) (O.map fun x=>un (ev x)) (hi.map fun x=>un (ev x)) (un (ev m)):=fun z=>zpJ (by rw[JO];exact hh)
   simp only[yK,j7,I,Z,h2,h3,U]
 |call cl=>
  obtain⟨callee,j,ats⟩:=cl;cases callee with
  |builtin b=>
   cases b with
   |max=>
    have ho:∀x∈j.toList,H x=ev x:=fun x I=>B x (by simp only[Op.operands,Call.operands];simp;exact by simpa using I)
    rcases hal:j.toList with _|⟨x,_|⟨y,_|⟨z,_|⟨_,_⟩⟩⟩⟩<;>rw[hal]at ho
    ·simp only[yK,j7,hal]
    ·simp only[yK,j7,hal]
    ·simp only[yK,j7,hal,ho x sI,ho y sI]
    ·simp only[yK,j7,hal,ho x sI,ho y sI,ho z sI]
    ·simp only[yK,j7,hal]
   |min=>
    cases hal:j.toList with
    |nil=>simp only[yK,j7,hal]
    |cons x r=>
     cases r with
     |nil=>simp only[yK,j7,hal]
     |cons y q=>
      cases q with
      |cons _ _=>simp only[yK,j7,hal]
      |nil=>have I:=B x (by simp only[Op.operands,Call.operands];simp;exact by simpa using(show x∈j.toList by rw[hal];simp));have J:=B y (by simp only[Op.operands,Call.operands];simp;exact by simpa using(show y∈j.toList by rw[hal];simp));simp only[yK,j7,hal,I,J]
   |_=>rfl
  |_=>rfl
 |makeSlice t a b=>have ha:=B a (by simp[Op.operands]);have Y:=B b (by simp[Op.operands]);simp only[yK,j7,ha,Y]
 |binOp bop t x y yt=>
  have I:=B x (by simp[Op.operands]);have J:=B y (by simp[Op.operands]);have key:un (ev y)=.nils->zj2 h' (un (ev x))=zj2 h (un (ev x)):=fun S=>by
   simp only[fpO,S]at hh;cases hu:un (ev x)with
   |rw i=>rw[hu]at hh;simp only[zj2,hh i sI]
   |_=>rfl
  simp only[yK,j7,I,J];by_cases S:un (ev y)=.nils
  ·rw[key S]
  ·cases hu:un (ev y)<;>first|rfl|exact absurd hu S
 |_=>rfl
theorem zaa{key:AV}{T:Type}{kont:Option (Nat×AV)->Option T}{r:T}:∀{l:List (AV×AV)}{i:Nat},Y8 key kont l i=some r->
  ∃q,kont q=some r/\∀(T':Type)(j:Option (Nat×AV)->Option T'),Y8 key j l i=j q
 |[],i,h=>⟨none,h,fun _ _=>rfl⟩
 |(x,v)::l,i,h=>by
  simp only[Y8]at h;split at h
  ·rename_i b H;cases b with
   |true=>exact⟨some (i,v),h,fun T' B=>by simp only[Y8,H,cond_true]⟩
   |false=>obtain⟨q,I,J⟩:=zaa (l:=l) (i:=i+1) h;exact⟨q,I,fun T' B=>by simp only[Y8,H,cond_false];exact J T' B⟩
  ·cases h
theorem Vt{h h':Heap}{v:AV}(hh:∀i∈idsV v,hget h' i=hget h i):Jd h' v=Jd h v:=by
 cases v with
 |map i=>simp only[Jd,hh i (by simp[idsV])]
 |_=>rfl
theorem zcs{h:Heap}{v:AV}{i:Nat}{l:List (AV×AV)}(e:Jd h v=some (i,l)):i∈idsV v:=by
 unfold Jd at e;split at e
 ·split at e
  ·cases e;simp[idsV]
  ·cases e
 ·cases e
theorem zpF{P:Program}{h h':Heap}{t:TypeId}{v x:AV}(hv:∀i∈idsV v,hget h' i=hget h i)(H:∀i∈idsV x,hget h' i=hget h i):zeY P h' t v x=zeY P h t v x:=by
 have B:zwx h' x=zwx h x:=by
  cases x with
  |str l=>rfl
  |_=>exact zc7 H
 have j:zr3 h' v=zr3 h v:=by
  cases v with
  |rw i=>simp only[zr3,hv i (by simp[idsV])]
  |rws i z c n=>have:=hv i (by simp[idsV]);unfold zr3;split<;>simp_all
  |_=>rfl
 simp only[zeY,B,j]
theorem zyS{P:Program}{h:Heap}{t:TypeId}{v x:AV}{q i:Nat}{o:AO}(e:zeY P h t v x=some (q,i,o)):i∈idsV v:=by
 unfold zeY at e;split at e
 ·split at e
  ·rename_i j _;cases e;unfold zr3 at j;split at j
   ·split at j
    ·simp only[Option.some.injEq,Prod.mk.injEq]at j;simp[idsV,j.1]
    ·cases j
   ·split at j
    ·simp only[Option.some.injEq,Prod.mk.injEq]at j;simp[idsV,j.1]
    ·cases j
   ·cases j
  ·cases e
 ·cases e
def Ext(h h':Heap):Prop:=∀i o,hget h i=some o->hget h' i=some o
theorem Ext.trans{a b c:Heap}(h:Ext a b)(k:Ext b c):Ext a c:=fun i o e=>k i o (h i o e)
theorem zdB{h h':Heap}(e:Ext h h'):∀(n:Nat)(j acc:List Nat),(∀i∈reach h n j acc,∃o,hget h i=some o)->reach h' n j acc=reach h n j acc
 |0,_,_,_=>by simp only[reach]
 |_+1,[],_,_=>by simp only[reach]
 |n+1,i::r,acc,hl=>by
  simp only[reach]at hl⊢;split
  ·rename_i B;simp only[B]at hl;exact zdB e n r acc hl
  ·rename_i B;simp only[B]at hl;cases hg:hget h i with
   |some o=>simp only[hg]at hl;simp only[e i o hg];exact zdB e n _ _ hl
   |none=>exfalso;simp only[hg]at hl;obtain⟨H,I⟩:=yl h n r (acc++[i]);obtain⟨o,ho⟩:=hl i (by rw[I];simp);rw[hg]at ho;cases ho
theorem zjJ{σ:Nat->Option Nat}{h h':Heap}(e:Ext h h'):∀{acc:List Nat}{v:Heap},KF σ h acc=some v->KF σ h' acc=some v
 |[],_,hv=>hv
 |i::r,v,hv=>by
  simp only[KF]at hv⊢;split at hv
  ·rename_i o B ho j;rw[e i o ho,zjJ e j];exact hv
  ·cases hv
theorem zpP{nid f:Nat}{B:List AV}{st:St}{T:Type}{k:AV->St->Option T}{r:T}(h:yv E true nid f B st k=some r)(hq:∀C∈E.Γ,C.f=f->QuietC C):
  ∃v,k v st=some r/\∀(st':St),Ext st.h st'.h->∀(T':Type)(Z:AV->St->Option T'),yv E true nid f B st' Z=Z v st':=by
 unfold yv at h;simp only[]at h;generalize hacc:reach st.h 1000 (idsL B) []=acc at h;split at h
 ·rename_i Y hv h1 h2 U;obtain⟨o,O,h6,h5⟩:=J7 h;have S:=h6 hq;split at O
  ·rename_i v ho g1 g2 g3 g4;have hlen:o.h.length=acc.length:=by rw[S];exact (J9 U).1
   have I:∀st':St,KF (fun i=>Ja i acc 0) st'.h acc=some hv->jI st'.h (acc++newIds nid (o.h.length-acc.length)) ho=st'.h:=fun st' H=>by rw[S]at g4;refine zeh (fun i j hj=>?_) H g4 _;have e:=XY hj;have hlt:=(mG.1 e).1;unfold zaV;rw[show Nat.blt j acc.length=true by rw[Nat.blt_eq];exact hlt];exact e
   split at O
   ·rename_i hg;refine⟨v,by rw[I st U]at O;exact O,fun st' he T' Z=>?_⟩;have J:reach st'.h 1000 (idsL B) []=acc:=by
     rw[<-hacc];refine zdB he 1000 _ _ fun i hi=>?_
     rw[hacc]at hi;obtain⟨p,hp⟩:=uAr.1 hi;obtain⟨o,_,h7,_⟩:=(J9 U).2 p i hp;exact⟨o,h7⟩
    have H:=zjJ he U;unfold yv;simp only[];rw[J,h1,h2,H];simp only[];rw[h5 T'];simp only[g1,g2,g3,g4,hg];rw[I st' H]
   ·cases O
  ·cases O
 ·cases h
theorem zuX{nid:Nat}{op:Op}{st:St}{T:Type}{k:AV->St->Option T}{r:T}(h:opK E true nid op st k=some r)(I:(fpO E.Q (opnd E.gl st.s) nid op).big=true)(H:(fpO E.Q (opnd E.gl st.s) nid op).r≠[]):
  ∃v,k v st=some r/\∀st':St,(∀x∈op.operands,opnd E.gl st'.s x=opnd E.gl st.s x)->Ext st.h st'.h->∀(T':Type)(O:AV->St->Option T'),opK E true nid op st' O=O v st':=by
 cases op with
 |call c=>
  obtain⟨callee,j,J⟩:=c;cases callee with
  |value f=>
   simp only[opK]at h;split at h
   ·rename_i g first cap S
    have Y:∀st':St,(∀x∈(Op.call ⟨.value f,j,J⟩).operands,opnd E.gl st'.s x=opnd E.gl st.s x)->∀(T:Type)(k:AV->St->Option T),opK E true nid (.call ⟨.value f,j,J⟩) st' k=yv E true nid g (first++j.toList.map (opnd E.gl st.s)++cap) st' k:=fun st' ha T k=>by
     have hf:=ha f (by simp[Op.operands,Call.operands]);have B:j.toList.map (opnd E.gl st'.s)=j.toList.map (opnd E.gl st.s):=uAk fun x hx=>ha x (by
      simp only[Op.operands,Call.operands];simp;exact .inr (by simpa using hx))
     simp only[opK,hf,S,B]
    have U:memN g E.Q=true:=by
     cases U:memN g E.Q with
     |true=>rfl
     |false=>exfalso;simp only[fpO,S,U]at H;split at H<;>first|exact H rfl|(rename_i hh _;cases hh)
    obtain⟨v,Z,h2⟩:=zpP h (E.hQ g U);exact⟨v,Z,fun st' ha he T' O=>by rw[Y st' ha];exact h2 st' he T' O⟩
   ·rename_i q fs S;exfalso;simp only[fpO,S]at H;split at H<;>exact H rfl
   ·cases h
  |builtin b=>cases b<;>cases I
  |_=>cases I
 |binOp bop t x y yt=>simp only[fpO]at I;split at I<;>cases I
 |_=>cases I
theorem zlT{nid:Nat}{op:Op}{st:St}{T:Type}{k:AV->St->Option T}{r:T}(h:opK E true nid op st k=some r):
  ∃v u,k v ⟨st.s,jR st.h u⟩=some r/\((fpO E.Q (opnd E.gl st.s) nid op).big=false->∀x∈u,x.1∈(fpO E.Q (opnd E.gl st.s) nid op).w)/\
   ((fpO E.Q (opnd E.gl st.s) nid op).w=[]->((fpO E.Q (opnd E.gl st.s) nid op).big=false\/(fpO E.Q (opnd E.gl st.s) nid op).r≠[])->u=[])/\
   ∀st':St,(∀x∈op.operands,opnd E.gl st'.s x=opnd E.gl st.s x)->((fpO E.Q (opnd E.gl st.s) nid op).big=true->st'.h=st.h)->
    ((fpO E.Q (opnd E.gl st.s) nid op).big=false->∀i∈(fpO E.Q (opnd E.gl st.s) nid op).r,hget st'.h i=hget st.h i)->Eff E nid op st' v u:=by
 have nilu:∀{v:AV},k v st=some r->(∀st':St,(∀x∈op.operands,opnd E.gl st'.s x=opnd E.gl st.s x)->((fpO E.Q (opnd E.gl st.s) nid op).big=true->st'.h=st.h)->
    ((fpO E.Q (opnd E.gl st.s) nid op).big=false->∀i∈(fpO E.Q (opnd E.gl st.s) nid op).r,hget st'.h i=hget st.h i)->∀(T:Type)(k:AV->St->Option T),opK E true nid op st' k=k v st')->
   ∃v u,k v ⟨st.s,jR st.h u⟩=some r/\((fpO E.Q (opnd E.gl st.s) nid op).big=false->∀x∈u,x.1∈(fpO E.Q (opnd E.gl st.s) nid op).w)/\
   ((fpO E.Q (opnd E.gl st.s) nid op).w=[]->((fpO E.Q (opnd E.gl st.s) nid op).big=false\/(fpO E.Q (opnd E.gl st.s) nid op).r≠[])->u=[])/\
   ∀st':St,(∀x∈op.operands,opnd E.gl st'.s x=opnd E.gl st.s x)->((fpO E.Q (opnd E.gl st.s) nid op).big=true->st'.h=st.h)->
    ((fpO E.Q (opnd E.gl st.s) nid op).big=false->∀i∈(fpO E.Q (opnd E.gl st.s) nid op).r,hget st'.h i=hget st.h i)->Eff E nid op st' v u:=
  fun h1 Y=>⟨_,[],h1,sI,fun _ _=>rfl,fun st' a b c T k=>Y st' a b c T k⟩
 have H:∀{v:AV},yC E.P st.h (opnd E.gl st.s) op=some (true,v)->k v st=some r->(fpO E.Q (opnd E.gl st.s) nid op).big=false->
   yK E.P st.h (opnd E.gl st.s) op=none->
   (∀(st':St)(T:Type)(k:AV->St->Option T),opK E true nid op st' k=match yK E.P st'.h (opnd E.gl st'.s) op with
    |some (c,.val v)=>chk c (k v st')
    |some (c,.row o)=>chk c (k (newV E.gl op nid) ⟨st'.s,st'.h.set nid (some o)⟩)
    |none=>match yC E.P st'.h (opnd E.gl st'.s) op with|some (c,v)=>chk c (k v st')|none=>none)->
   ∃v u,k v ⟨st.s,jR st.h u⟩=some r/\((fpO E.Q (opnd E.gl st.s) nid op).big=false->∀x∈u,x.1∈(fpO E.Q (opnd E.gl st.s) nid op).w)/\
   ((fpO E.Q (opnd E.gl st.s) nid op).w=[]->((fpO E.Q (opnd E.gl st.s) nid op).big=false\/(fpO E.Q (opnd E.gl st.s) nid op).r≠[])->u=[])/\
   ∀st':St,(∀x∈op.operands,opnd E.gl st'.s x=opnd E.gl st.s x)->((fpO E.Q (opnd E.gl st.s) nid op).big=true->st'.h=st.h)->
    ((fpO E.Q (opnd E.gl st.s) nid op).big=false->∀i∈(fpO E.Q (opnd E.gl st.s) nid op).r,hget st'.h i=hget st.h i)->Eff E nid op st' v u:=by
  intro v h1 Y h3 h5 h4;refine nilu Y fun st' ha I hc T k=>?_
  rw[h4,Vp (nid:=nid) ha (hc h3),h5,zoo (nid:=nid) ha (hc h3),h1];rfl
 have S:∀{c:Bool}{m:MA},yK E.P st.h (opnd E.gl st.s) op=some (c,m)->(match m with|.val v=>chk c (k v st)|.row o=>chk c (k (newV E.gl op nid) ⟨st.s,st.h.set nid (some o)⟩))=some r->(fpO E.Q (opnd E.gl st.s) nid op).big=false->
   (∀o,m=.row o->(fpO E.Q (opnd E.gl st.s) nid op).w=[nid])->
   (∀(st':St)(T:Type)(k:AV->St->Option T),opK E true nid op st' k=match yK E.P st'.h (opnd E.gl st'.s) op with
    |some (c,.val v)=>chk c (k v st')
    |some (c,.row o)=>chk c (k (newV E.gl op nid) ⟨st'.s,st'.h.set nid (some o)⟩)
    |none=>match yC E.P st'.h (opnd E.gl st'.s) op with|some (c,v)=>chk c (k v st')|none=>none)->
   ∃v u,k v ⟨st.s,jR st.h u⟩=some r/\((fpO E.Q (opnd E.gl st.s) nid op).big=false->∀x∈u,x.1∈(fpO E.Q (opnd E.gl st.s) nid op).w)/\
   ((fpO E.Q (opnd E.gl st.s) nid op).w=[]->((fpO E.Q (opnd E.gl st.s) nid op).big=false\/(fpO E.Q (opnd E.gl st.s) nid op).r≠[])->u=[])/\
   ∀st':St,(∀x∈op.operands,opnd E.gl st'.s x=opnd E.gl st.s x)->((fpO E.Q (opnd E.gl st.s) nid op).big=true->st'.h=st.h)->
    ((fpO E.Q (opnd E.gl st.s) nid op).big=false->∀i∈(fpO E.Q (opnd E.gl st.s) nid op).r,hget st'.h i=hget st.h i)->Eff E nid op st' v u:=by
  intro c m h1 Y h3 h6 h4;cases m with
  |val v=>
   simp only at Y;obtain⟨rfl,Y⟩:=zm Y;refine nilu Y fun st' ha I hc T k=>?_
   rw[h4,Vp (nid:=nid) ha (hc h3),h1];rfl
  |row o=>
   have h6:=h6 o rfl;simp only at Y;obtain⟨rfl,Y⟩:=zm Y;refine⟨_,[(nid,some o)],Y,fun _ x Z=>?_,fun U _=>?_,fun st' ha _ hc T k=>?_⟩
   ·simp only[mL]at Z;subst Z;rw[h6];simp
   ·rw[h6]at U;cases U
   ·rw[h4,Vp (nid:=nid) ha (hc h3),h1];rfl
 cases op with
 |pick c a b=>
  simp only[opK]at h;split at h
  ·rename_i x Z;cases x with
   |true=>
    refine nilu h fun st' ha I hc T k=>?_
    simp only[opK,ha c (by simp[Op.operands]),ha a (by simp[Op.operands]),Z,cond_true]
   |false=>
    refine nilu h fun st' ha I hc T k=>?_
    simp only[opK,ha c (by simp[Op.operands]),ha b (by simp[Op.operands]),Z,cond_false]
  ·cases h
 |alloc t=>
  simp only[opK]at h;split at h
  ·rename_i cs hz;refine⟨_,[(nid,some (.cells t cs))],h,fun _ x Z=>?_,fun U _=>by simp[fpO]at U,fun st' _ _ _ T k=>?_⟩
   ·simp only[mL]at Z;subst Z;simp[fpO]
   ·simp only[opK,hz];rfl
  ·cases h
 |box t x=>
  simp only[opK]at h;split at h
  ·rename_i ho;refine⟨_,[(nid,some (.cells t (cellsA (opnd E.gl st.s x))))],h,fun _ x Z=>?_,fun U _=>by simp[fpO]at U,fun st' ha _ _ T k=>?_⟩
   ·simp only[mL]at Z;subst Z;simp[fpO]
   ·simp only[opK,ha x (by simp[Op.operands]),ho];rfl
  ·cases h
 |buildSlice t len parts=>
  simp only[opK]at h;split at h
  ·rename_i c o I;obtain⟨rfl,h⟩:=zm h;refine⟨_,[(nid,some o)],h,fun _ x Z=>?_,fun U _=>by simp[fpO]at U,fun st' ha _ _ T k=>?_⟩
   ·simp only[mL]at Z;subst Z;simp[fpO]
   ·have e:zap (opnd E.gl st'.s) parts.toList=zap (opnd E.gl st.s) parts.toList:=zbn fun p hp=>ha p.2 (by
     simp only[Op.operands];simp only[List.mem_toArray,uAb];exact⟨p,hp,rfl⟩)
    simp only[opK,e,I];rfl
  ·cases h
 |load t x=>
  simp only[opK]at h;split at h
  ·rename_i c v hv;obtain⟨rfl,h⟩:=zm h;refine nilu h fun st' ha _ hc T k=>?_
   have e:=zoL (P:=E.P) (t:=t) (h:=st.h) (h':=st'.h) (v:=opnd E.gl st.s x) (hc rfl);simp only[opK,ha x (by simp[Op.operands]),e,hv];rfl
  ·cases h
 |store t x y=>
  simp only[opK]at h;split at h
  ·rename_i c i o hs;obtain⟨rfl,h⟩:=zm h;refine⟨_,[(i,some o)],h,fun _ z hz=>?_,fun U _=>?_,fun st' ha _ hc T k=>?_⟩
   ·simp only[mL]at hz;subst hz;exact zjT hs
   ·have:=zjT hs;have U:idsV (opnd E.gl st.s x)=[]:=U;rw[U]at this;cases this
   ·have e:=zlh (P:=E.P) (t:=t) (h:=st.h) (h':=st'.h) (v:=opnd E.gl st.s x) (x:=opnd E.gl st.s y) (hc rfl);simp only[opK,ha x (by simp[Op.operands]),ha y (by simp[Op.operands]),e,hs];rfl
  ·cases h
 |call c=>
  obtain⟨callee,B,ats⟩:=c;cases callee with
  |value f=>
   simp only[opK]at h;split at h
   ·rename_i g first cap hg
    obtain⟨v,ids,ho,h1,Y,h4,h3⟩:=zkM h;have hf':∀st':St,(∀x∈(Op.call ⟨.value f,B,ats⟩).operands,opnd E.gl st'.s x=opnd E.gl st.s x)->∀(T:Type)(k:AV->St->Option T),opK E true nid (.call ⟨.value f,B,ats⟩) st' k=yv E true nid g (first++B.toList.map (opnd E.gl st.s)++cap) st' k:=fun st' ha T k=>by
     have hf:=ha f (by simp[Op.operands,Call.operands]);have O:B.toList.map (opnd E.gl st'.s)=B.toList.map (opnd E.gl st.s):=uAk fun x Z=>ha x (by
      simp only[Op.operands,Call.operands];simp;exact .inr (by simpa using Z))
     simp only[opK,hf,hg,O]
    by_cases hn:idsL (first++B.toList.map (opnd E.gl st.s)++cap)=[]
    ·have J:fpO E.Q (opnd E.gl st.s) nid (.call ⟨.value f,B,ats⟩)=⟨[],newIds nid j8,false⟩:=by simp only[fpO,hg,hn]
     refine⟨v,ids.zip ho,h1,fun I x Z=>?_,fun U _=>?_,fun st' ha I hc T k=>?_⟩
     ·rw[J];exact Y hn x.1 (List.of_mem_zip (a:=x.1) (b:=x.2) Z).1
     ·rw[J]at U;simp[newIds,j8]at U
     ·rw[hf' st' ha];exact h3 st' (fun h=>(h hn).elim) T k
    ·cases hq:memN g E.Q with
     |true=>
      have J:fpO E.Q (opnd E.gl st.s) nid (.call ⟨.value f,B,ats⟩)=⟨[0],[],true⟩:=by simp only[fpO,hg,hq]
      have hsame:=h4 (E.hQ g hq);refine⟨v,[],by rw[hsame]at h1;exact h1,fun I=>?_,fun _ _=>rfl,fun st' ha I hc T k=>?_⟩
      ·rw[J]at I;cases I
      ·have hst:st'.h=st.h:=I (by rw[J]);rw[hf' st' ha,h3 st' (fun _=>hst) T k,hst,hsame];rfl
     |false=>
      have J:fpO E.Q (opnd E.gl st.s) nid (.call ⟨.value f,B,ats⟩)=⟨[],[],true⟩:=by simp only[fpO,hg,hq]
      refine⟨v,ids.zip ho,h1,fun I=>?_,fun _ I=>?_,fun st' ha I hc T k=>?_⟩
      ·rw[J]at I;cases I
      ·rw[J]at I;rcases I with I|I
       ·cases I
       ·exact (I rfl).elim
      ·rw[hf' st' ha];exact h3 st' (fun _=>I (by rw[J])) T k
   ·rename_i q fs hg;obtain⟨g,h,hN⟩:=zed h;obtain⟨v,ids,ho,h1,Y,_,h3⟩:=zkM h;have J:fpO E.Q (opnd E.gl st.s) nid (.call ⟨.value f,B,ats⟩)=match idsL (B.toList.map (opnd E.gl st.s))with
     |[]=>⟨[],newIds nid j8,false⟩
     |_=>⟨[],[],true⟩:=by simp only[fpO,hg];cases idsL (List.map (opnd E.gl st.s) B.toList)<;>rfl
    refine⟨v,ids.zip ho,h1,fun I x Z=>?_,fun U I=>?_,fun st' ha I hc T k=>?_⟩
    ·rw[J]at I⊢;split at I
     ·rename_i hn;simp only;exact Y hn x.1 (List.of_mem_zip (a:=x.1) (b:=x.2) Z).1
     ·cases I
    ·rw[J]at U I;split at I
     ·rename_i hn;rw[hn]at U;simp[newIds,j8]at U
     ·rcases I with I|I
      ·cases I
      ·exact (I rfl).elim
    ·have hf:=ha f (by simp[Op.operands,Call.operands]);have O:B.toList.map (opnd E.gl st'.s)=B.toList.map (opnd E.gl st.s):=uAk fun x Z=>ha x (by
      simp only[Op.operands,Call.operands];simp;exact .inr (by simpa using Z))
     simp only[opK,hf,hg,O];rw[hN];refine h3 st' (fun hn=>I ?_) T k;rw[J];split
     ·rename_i hn';exact absurd hn' hn
     ·rfl
   ·cases h
  |builtin b=>
   cases b with
   |append=>simp only[opK]at h;cases h
   |copy=>
    simp only[opK]at h;split at h
    ·rename_i t tx d x hats O;split at h
     ·rename_i q i o hs;have hid:=zyS hs;rw[JO]at hid;have hids:idsL (B.toList.map (opnd E.gl st.s))=idsV (opnd E.gl st.s d)++(idsV (opnd E.gl st.s x)++[]):=by rw[O];rfl
      have J:fpO E.Q (opnd E.gl st.s) nid (.call ⟨.builtin .copy,B,ats⟩)=⟨idsV (opnd E.gl st.s d)++(idsV (opnd E.gl st.s x)++[]),idsV (opnd E.gl st.s d)++(idsV (opnd E.gl st.s x)++[]),false⟩:=by simp only[fpO,hids]
      refine⟨_,[(i,some o)],h,fun _ z hz=>?_,fun U _=>?_,fun st' ha _ hc T k=>?_⟩
      ·simp only[mL]at hz;subst hz;rw[J];exact uAc _ hid
      ·rw[J]at U;have U:=(uAg.1 U).1;rw[U]at hid;cases hid
      ·rw[J]at hc;have hm:∀y∈B.toList,opnd E.gl st'.s y=opnd E.gl st.s y:=fun y hy=>ha y (by
        simp only[Op.operands,Call.operands];simp;exact by simpa using hy)
       have e:=zpF (P:=E.P) (t:=t) (h:=st.h) (h':=st'.h) (v:=un (opnd E.gl st.s d)) (x:=un (opnd E.gl st.s x)) (fun j hj=>hc rfl j (uAc _ (by rwa [JO]at hj))) (fun j hj=>hc rfl j (uAJ _ (uAc _ (by rwa [JO]at hj))));simp only[opK,hats,O,hm d (by rw[O];simp),hm x (by rw[O];simp),e,hs];rfl
     ·cases h
    ·cases h
   |max=>
    simp only[opK]at h;split at h
    ·rename_i c v hv;exact S hv h rfl (fun _ e=>by cases e) (fun st' T k=>rfl)
    ·rename_i c o hv;rcases moreA_row hv with⟨_,_,_,e⟩|⟨_,_,_,e⟩<;>cases e
    ·rename_i hm;split at h
     ·rename_i c v hv;obtain⟨rfl,h⟩:=zm h;exact H hv h rfl hm (fun st' T k=>rfl)
     ·cases h
   |min=>
    simp only[opK]at h;split at h
    ·rename_i c v hv;exact S hv h rfl (fun _ e=>by cases e) (fun st' T k=>rfl)
    ·rename_i c o hv;rcases moreA_row hv with⟨_,_,_,e⟩|⟨_,_,_,e⟩<;>cases e
    ·rename_i hm;split at h
     ·rename_i c v hv;obtain⟨rfl,h⟩:=zm h;exact H hv h rfl hm (fun st' T k=>rfl)
     ·cases h
   |_=>
    simp only[opK]at h;split at h
    ·rename_i hv;cases hv
    ·rename_i hv;cases hv
    ·split at h
     ·rename_i c v hv;obtain⟨rfl,h⟩:=zm h;exact H hv h rfl rfl (fun st' T k=>rfl)
     ·cases h
  |invoke m n=>
   simp only[opK]at h;split at h
   ·rename_i hv;cases hv
   ·rename_i hv;cases hv
   ·split at h
    ·rename_i c v hv;obtain⟨rfl,h⟩:=zm h;exact H hv h rfl rfl (fun st' T k=>rfl)
    ·cases h
 |convert s d x=>
  simp only[opK]at h;split at h
  ·rename_i c v hv;exact S hv h rfl (fun _ _=>rfl) (fun st' T k=>rfl)
  ·rename_i c o hv;exact S hv h rfl (fun _ _=>rfl) (fun st' T k=>rfl)
  ·rename_i hm;split at h
   ·rename_i c v hv;obtain⟨rfl,h⟩:=zm h;exact H hv h rfl hm (fun st' T k=>rfl)
   ·cases h
 |makeSlice t x y=>
  simp only[opK]at h;split at h
  ·rename_i c v hv;exact S hv h rfl (fun _ _=>rfl) (fun st' T k=>rfl)
  ·rename_i c o hv;exact S hv h rfl (fun _ _=>rfl) (fun st' T k=>rfl)
  ·rename_i hm;split at h
   ·rename_i c v hv;obtain⟨rfl,h⟩:=zm h;exact H hv h rfl hm (fun st' T k=>rfl)
   ·cases h
 |slice t x lo hi mx=>
  simp only[opK]at h;split at h
  ·rename_i c v hv;exact S hv h rfl (fun _ e=>by cases e) (fun st' T k=>rfl)
  ·rename_i c o hv;rcases moreA_row hv with⟨_,_,_,e⟩|⟨_,_,_,e⟩<;>cases e
  ·rename_i hm;split at h
   ·rename_i c v hv;obtain⟨rfl,h⟩:=zm h;exact H hv h rfl hm (fun st' T k=>rfl)
   ·cases h
 |makeMap t rs=>
  simp only[opK]at h;have fin:k (.map nid) ⟨st.s,st.h.set nid (some (.mp []))⟩=some r->(∀st':St,(∀x∈(Op.makeMap t rs).operands,opnd E.gl st'.s x=opnd E.gl st.s x)->∀(T:Type)(k:AV->St->Option T),opK E true nid (.makeMap t rs) st' k=k (.map nid) ⟨st'.s,st'.h.set nid (some (.mp []))⟩)->
    ∃v u,k v ⟨st.s,jR st.h u⟩=some r/\((fpO E.Q (opnd E.gl st.s) nid (.makeMap t rs)).big=false->∀x∈u,x.1∈(fpO E.Q (opnd E.gl st.s) nid (.makeMap t rs)).w)/\
   ((fpO E.Q (opnd E.gl st.s) nid (.makeMap t rs)).w=[]->((fpO E.Q (opnd E.gl st.s) nid (.makeMap t rs)).big=false\/(fpO E.Q (opnd E.gl st.s) nid (.makeMap t rs)).r≠[])->u=[])/\
   ∀st':St,(∀x∈(Op.makeMap t rs).operands,opnd E.gl st'.s x=opnd E.gl st.s x)->((fpO E.Q (opnd E.gl st.s) nid (.makeMap t rs)).big=true->st'.h=st.h)->
    ((fpO E.Q (opnd E.gl st.s) nid (.makeMap t rs)).big=false->∀i∈(fpO E.Q (opnd E.gl st.s) nid (.makeMap t rs)).r,hget st'.h i=hget st.h i)->Eff E nid (.makeMap t rs) st' v u:=by
   intro h1 Y;refine⟨_,[(nid,some (.mp []))],h1,fun _ x Z=>?_,fun U _=>by simp[fpO]at U,fun st' ha _ _ T k=>?_⟩
   ·simp only[mL]at Z;subst Z;simp[fpO]
   ·rw[Y st' ha T k];rfl
  split at h
  ·exact fin h fun st' _ T k=>by simp only[opK]
  ·rename_i x p0 k0 n0 ht hx0;refine fin h fun st' ha T k=>?_
   have hx1:=ha x (by simp[Op.operands]);have e:opnd E.gl st.s x=.int k0 n0:=by simpa using hx0
   simp only[opK,ht,uAA,hx1,e]
  ·cases h
 |lookup t x ix ok=>
  simp only[opK]at h;split at h
  ·rename_i kt et i l ht hat;split at h
   ·rename_i z hk hz;have go:∀(q:Option (Nat×AV))(v:AV),(∀(T':Type)(kont':Option (Nat×AV)->Option T'),Y8 (opnd E.gl st.s ix) kont' l 0=kont' q)->k v st=some r->
     (∀(T:Type)(k:AV->St->Option T)(st':St),(match q with|some (_,v)=>k (okV ok v true) st'|none=>k (okV ok z false) st')=k v st')->
     ∃v u,k v ⟨st.s,jR st.h u⟩=some r/\((fpO E.Q (opnd E.gl st.s) nid (.lookup t x ix ok)).big=false->∀y∈u,y.1∈(fpO E.Q (opnd E.gl st.s) nid (.lookup t x ix ok)).w)/\
   ((fpO E.Q (opnd E.gl st.s) nid (.lookup t x ix ok)).w=[]->((fpO E.Q (opnd E.gl st.s) nid (.lookup t x ix ok)).big=false\/(fpO E.Q (opnd E.gl st.s) nid (.lookup t x ix ok)).r≠[])->u=[])/\
   ∀st':St,(∀y∈(Op.lookup t x ix ok).operands,opnd E.gl st'.s y=opnd E.gl st.s y)->((fpO E.Q (opnd E.gl st.s) nid (.lookup t x ix ok)).big=true->st'.h=st.h)->
    ((
     fpO E.Q (opnd E.gl st.s) nid (.lookup t x ix ok)).big=false->∀i∈(fpO E.Q (opnd E.gl st.s) nid (.lookup t x ix ok)).r,hget st'.h i=hget st.h i)->Eff E nid (.lookup t x ix ok) st' v u:=by
     intro q v Y hv hall;refine nilu hv fun st' ha _ hc T k=>?_
     have hloc:Jd st'.h (opnd E.gl st.s x)=Jd st.h (opnd E.gl st.s x):=Vt (hc rfl);simp only[opK,ha x (by simp[Op.operands]),ha ix (by simp[Op.operands]),ht,hloc,hat,hk,hz];rw[Y];exact hall T k st'
    obtain⟨q,h1,Y⟩:=zaa h;cases q with
    |none=>exact go none _ Y h1 fun _ _ _=>rfl
    |some p=>exact go (some p) _ Y h1 fun _ _ _=>rfl
   ·cases h
  ·cases h
 |mapUpdate t m x y=>
  simp only[opK]at h;split at h
  ·rename_i kt et i l ht hat;split at h
   ·rename_i hk hids;obtain⟨q,h1,Y⟩:=zaa h;refine⟨_,[(i,some (.mp (mapPut l (opnd E.gl st.s x) (opnd E.gl st.s y) q)))],h1,fun _ z hz=>?_,fun U _=>?_,fun st' ha _ hc T k=>?_⟩
    ·simp only[mL]at hz;subst hz;exact zcs hat
    ·have:=zcs hat;have U:idsV (opnd E.gl st.s m)=[]:=U;rw[U]at this;cases this
    ·have hloc:Jd st'.h (opnd E.gl st.s m)=Jd st.h (opnd E.gl st.s m):=Vt (hc rfl);simp only[opK,ha m (by simp[Op.operands]),ha x (by simp[Op.operands]),ha y (by simp[Op.operands]),ht,hloc,hat,hk,hids];rw[Y];rfl
   ·cases h
  ·cases h
 |insert t m x y=>
  simp only[opK]at h;split at h
  ·rename_i kt et i l ht hat;split at h
   ·rename_i hk hids;obtain⟨q,h1,Y⟩:=zaa h;refine⟨_,[(i,some (.mp (mapPut l (opnd E.gl st.s x) (opnd E.gl st.s y) q)))],h1,fun _ z hz=>?_,fun U _=>?_,fun st' ha _ hc T k=>?_⟩
    ·simp only[mL]at hz;subst hz;exact zcs hat
    ·have:=zcs hat;have U:idsV (opnd E.gl st.s m)=[]:=U;rw[U]at this;cases this
    ·have hloc:Jd st'.h (opnd E.gl st.s m)=Jd st.h (opnd E.gl st.s m):=Vt (hc rfl);simp only[opK,ha m (by simp[Op.operands]),ha x (by simp[Op.operands]),ha y (by simp[Op.operands]),ht,hloc,hat,hk,hids];rw[Y];rfl
   ·cases h
  ·cases h
 |binOp bop t x y yt=>
  have hbig:(fpO E.Q (opnd E.gl st.s) nid (.binOp bop t x y yt)).big=false:=by simp only[fpO];split<;>rfl
  simp only[opK]at h;split at h
  ·rename_i c v hv;exact S hv h hbig (fun _ e=>by cases e) (fun st' T k=>rfl)
  ·rename_i c o hv;rcases moreA_row hv with⟨_,_,_,e⟩|⟨_,_,_,e⟩<;>cases e
  ·rename_i hm;split at h
   ·rename_i c v hv;obtain⟨rfl,h⟩:=zm h;exact H hv h hbig hm (fun st' T k=>rfl)
   ·cases h
 |range t x=>simp only[opK]at h;cases h
 |next x b=>
  cases b with
  |true=>simp only[opK]at h;cases h
  |false=>
   simp only[opK]at h;split at h
   ·rename_i hv;cases hv
   ·rename_i hv;cases hv
   ·split at h
    ·rename_i c v hv;cases hv
    ·cases h
 |_=>
  simp only[opK]at h;split at h
  ·rename_i hv;cases hv
  ·rename_i hv;cases hv
  ·split at h
   ·rename_i c v hv;obtain⟨rfl,h⟩:=zm h;exact H hv h rfl rfl (fun st' T k=>rfl)
   ·cases h
end
end Go.Am
