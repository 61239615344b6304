/-
  A part of the proof of the laws.
-/
import Derived.Test.YtannhfbidakffaaGreatDoorAm17
namespace Go.Am
open Go Go.RowKit Go.Vc
theorem zgJ{a b:IntKind}(h:kEq a b=true):a=b:=by cases a<;>cases b<;>first|rfl|cases h
mutual
theorem QK:∀(a b:AV),zev a b=true->a=b
 |a,b,h=>by
  cases a<;>cases b<;>simp only[zev,mF,decide_eq_true_eq,beq_iff_eq,nA]at h;any_goals first
   |rfl
   |(subst h;rfl)
   |(rw[zgJ h.1,h.2])
   |(rw[mE h])
   |(rw[mE h.1,mE h.2])
   |(rw[h.1,h.2])
   |(rw[h.1.1,zgJ h.1.2,h.2])
   |(rw[QK _ _ h])
   |(rw[h.1.1,mE h.1.2,yb _ _ h.2])
   |(rw[mE h.1.1,mE h.1.2,h.2.1,h.2.2])
   |(rw[mE h.1.1,yb _ _ h.1.2,yb _ _ h.2])
   |(rw[yb _ _ h])
   |(rw[mE h.1.1,mE h.1.2,h.2.1,mE h.2.2])
   |(rw[zgJ h])
   |(rw[mE h.1,QK _ _ h.2])
theorem yb:∀(a b:List AV),qK a b=true->a=b
 |[],[],_=>rfl
 |a::r,b::s,h=>by simp only[qK,mF]at h;rw[QK a b h.1,yb r s h.2]
 |[],_::_,h=>by cases h
 |_::_,[],h=>by cases h
end
section
variable {E : Env} {all : List Oper} {base : Nat}
theorem ziP{nid:Nat}{op:Op}(ha:Zk op=true){st:St}{T:Type}{k:AV->St->Option T}{r:T}(h:opK E false nid op st k=some r):
  ∃v D hh,k v ⟨(scrub D st).s,hh⟩=some r/\∀st':St,st'.h=st.h->(∀x∈op.operands,opnd E.gl st'.s x=opnd E.gl st.s x)->∀(T':Type)(J:AV->St->Option T'),opK E false nid op st' J=J v ⟨(scrub D st').s,hh⟩:=by
 unfold Zk at ha;split at ha
 ·rename_i B ats;simp only[opK]at h;split at h
  ·rename_i t tx s x _ Y U;have Z:∀st':St,(∀x∈(Op.call ⟨.builtin .append,B,ats⟩).operands,opnd E.gl st'.s x=opnd E.gl st.s x)->opnd E.gl st'.s s=opnd E.gl st.s s/\opnd E.gl st'.s x=opnd E.gl st.s x:=fun st' ho=>by
    have H:B= #[s,x]:=by apply nW;simpa using U
    subst H;exact⟨ho s (by simp[Op.operands,Call.operands]),ho x (by simp[Op.operands,Call.operands])⟩
   split at h
   ·rename_i bb cc o O;cases bb with
    |false=>rw[cond_false]at h;refine⟨_,[],st.h,h,fun st' hh ho T' J=>?_⟩;obtain⟨I,o2⟩:=Z st' ho;simp only[opK,Y,U,I,o2,hh,O,cond_false];rw[<-hh];rfl
    |true=>rw[cond_true]at h;obtain⟨rfl,h⟩:=zm h;refine⟨_,[],_,h,fun st' hh ho T' J=>?_⟩;obtain⟨I,o2⟩:=Z st' ho;simp only[opK,Y,U,I,o2,hh,O,cond_true];rfl
   ·rename_i S;split at h
    ·rename_i cc j o O;obtain⟨hc,h⟩:=zm h;refine⟨_,[j],_,h,fun st' hh ho T' J=>?_⟩;obtain⟨I,o2⟩:=Z st' ho;simp only[opK,Y,U,I,o2,hh,S,O,hc];rw[show(scrub [j] st').h=(scrub [j] st).h by show st'.h.map _=st.h.map _;rw[hh]];rfl
    ·rename_i cc o O;obtain⟨hc,h⟩:=zm h;refine⟨_,[],_,h,fun st' hh ho T' J=>?_⟩;obtain⟨I,o2⟩:=Z st' ho;simp only[opK,Y,U,I,o2,hh,S,O,hc];rfl
    ·cases h
  ·cases h
 ·cases ha
theorem zqA{D:List Nat}{st st':St}(h:st'.h=st.h):(scrub D st').h=(scrub D st).h:=by
 cases D with
 |nil=>exact h
 |cons a r=>show st'.h.map _=st.h.map _;rw[h]
theorem ziI{nid:Nat}{f:FuncId}{j:List AV}{st:St}{T:Type}{k:AV->St->Option T}{r:T}(h:yv E false nid f j st k=some r):
  ∃v D hh,k v ⟨(scrub D st).s,hh⟩=some r/\∀st':St,st'.h=st.h->∀(T':Type)(H:AV->St->Option T'),yv E false nid f j st' H=H v ⟨(scrub D st').s,hh⟩:=by
 unfold yv at h;simp only[]at h;split at h
 ·rename_i O hv S h2 Z;obtain⟨o,B,_,h5⟩:=J7 h;split at B
  ·rename_i v ho Y g2 U g4;split at B
   ·rename_i I;refine⟨v,[],_,B,fun st' J T' H=>?_⟩;unfold yv;simp only[J,S,h2,Z];rw[h5];simp only[Y,g2,U,g4,I];rfl
   ·rename_i I;generalize hgo:Q8 (reach st.h 1000 (idsL j) []++newIds nid (o.h.length-(reach st.h 1000 (idsL j) []).length)) ho=D0 at B I;cases D0 with
    |nil=>exact absurd rfl I
    |cons d D=>refine⟨v,d::D,_,B,fun st' J T' H=>?_⟩;unfold yv;simp only[J,S,h2,Z];rw[h5];simp only[Y,g2,U,g4,hgo];rw[zqA (st:=⟨st.s,st.h⟩) (st':=⟨st'.s,st.h⟩) rfl];exact congrArg (fun x=>H v ⟨(scrub (d::D) x).s,_⟩) (show(⟨st'.s,st.h⟩:St)=st' by rw[<-J])
  ·cases B
 ·cases h
theorem ziH{nid:Nat}{n:Int}{j:List AV}{st:St}{T:Type}{k:AV->St->Option T}{r:T}:∀{fs:List FuncId}{i:Nat},Qg E false nid n j st k i fs=some r->
  ∃v D hh,k v ⟨(scrub D st).s,hh⟩=some r/\∀st':St,st'.h=st.h->∀(T':Type)(B:AV->St->Option T'),Qg E false nid n j st' B i fs=B v ⟨(scrub D st').s,hh⟩
 |[],_,h=>by cases h
 |f::fs,i,h=>by
  simp only[Qg]at h;cases hb:decide (n=(i:Int))with
  |true=>rw[hb,cond_true]at h;obtain⟨v,D,hh,H,J⟩:=ziI h;exact⟨v,D,hh,H,fun st' I T' B=>by simp only[Qg,hb,cond_true];exact J st' I T' B⟩
  |false=>rw[hb,cond_false]at h;obtain⟨v,D,hh,H,J⟩:=ziH h;exact⟨v,D,hh,H,fun st' I T' B=>by simp only[Qg,hb,cond_false];exact J st' I T' B⟩
theorem zy3{nid:Nat}{op:Op}{st:St}{T:Type}{k:AV->St->Option T}{r:T}(h:opK E (zde op) nid op st k=some r):
  ∃v D hh,k v ⟨(scrub D st).s,hh⟩=some r/\∀st':St,st'.h=st.h->(∀x∈op.operands,opnd E.gl st'.s x=opnd E.gl st.s x)->∀(T':Type)(H:AV->St->Option T'),opK E (zde op) nid op st' H=H v ⟨(scrub D st').s,hh⟩:=by
 have j:zde op=true->∃v D hh,k v ⟨(scrub D st).s,hh⟩=some r/\∀st':St,st'.h=st.h->(∀x∈op.operands,opnd E.gl st'.s x=opnd E.gl st.s x)->∀(T':Type)(H:AV->St->Option T'),opK E (zde op) nid op st' H=H v ⟨(scrub D st').s,hh⟩:=by intro Z;rw[Z]at h⊢;obtain⟨v,u,O,U⟩:=WO h;refine⟨v,[],jR st.h u,O,fun st' S ho T' H=>?_⟩;have:=U.2.2.1 st' ho (fun _=>S) (fun _ _ _=>by rw[S]) T' H;rw[this,S];rfl
 by_cases ha:Zk op=true
 ·have Z:zde op=false:=by
   unfold Zk at ha;split at ha
   ·rfl
   ·cases ha
  rw[Z]at h⊢;exact ziP ha h
 ·cases op with
  |call c=>
   obtain⟨callee,B,J⟩:=c;cases callee with
   |value f=>
    have I:∀st':St,(∀x∈(Op.call ⟨.value f,B,J⟩).operands,opnd E.gl st'.s x=opnd E.gl st.s x)->opnd E.gl st'.s f=opnd E.gl st.s f/\B.toList.map (opnd E.gl st'.s)=B.toList.map (opnd E.gl st.s):=fun st' ho=>⟨ho f (by simp[Op.operands,Call.operands]),uAk fun x hx=>ho x (by simp only[Op.operands,Call.operands];simp;exact .inr (by simpa using hx))⟩
    show∃v D hh,_/\∀st':St,_->_->∀(T':Type)(H:AV->St->Option T'),opK E false nid (.call ⟨.value f,B,J⟩) st' H=_;have h:opK E false nid (.call ⟨.value f,B,J⟩) st k=some r:=h;simp only[opK]at h;split at h
    ·rename_i g first cap hg
     obtain⟨v,D,hh,O,U⟩:=ziI h;refine⟨v,D,hh,O,fun st' S ho T' H=>?_⟩;obtain⟨Y,o2⟩:=I st' ho;simp only[opK,Y,o2,hg]
     grind
    ·rename_i n fs hg;obtain⟨v,D,hh,O,U⟩:=ziH h;refine⟨v,D,hh,O,fun st' S ho T' H=>?_⟩;obtain⟨Y,o2⟩:=I st' ho;simp only[opK,Y,o2,hg]
     grind
    ·cases h
   |builtin b=>
    cases b with
    |append=>exact absurd rfl ha
    |_=>exact j rfl
   |invoke r m=>exact j rfl
  |_=>exact j rfl
theorem zib(D:List Nat){s j:St}{t:Nat}(h:get j.s t=get s.s t):get (scrub D j).s t=get (scrub D s).s t:=by
 cases D with
 |nil=>exact h
 |cons a r=>show get (j.s.map _) t=get (s.s.map _) t;rw[Kj,Kj,h]
theorem zkz{o:Oper}{i:Nat}{st:St}{T:Type}{K:St->Option T}{r:T}(h:zmP E all base o i st K=some r):
  ∃v D hh,K ⟨putO o.dst v (scrub D st).s,hh⟩=some r/\∀st':St,st'.h=st.h->(∀t∈o.looksAt all.toArray,get st'.s t=get st.s t)->
   (zx all o st'=some true/\opK E (zde o.op) (nidOf all base i) o.op st' (fun v s=>some (v,s))=some (v,⟨(scrub D st').s,hh⟩))\/(zx all o st'=some false/\v=.tup []/\D=[]/\hh=st'.h):=by
 unfold zmP at h;split at h
 ·rename_i H;obtain⟨v,D,hh,I,J⟩:=zy3 h;exact⟨v,D,hh,I,fun st' B j=>.inl ⟨(zu j).trans H,J st' B (yc j) _ _⟩⟩
 ·rename_i H;exact⟨.tup [],[],st.h,h,fun st' B j=>.inr ⟨(zu j).trans H,rfl,rfl,B.symm⟩⟩
 ·cases h
theorem zky:∀{fl:List (Oper×Nat)}{st:St}{T:Type}{k:St->Option T}{r:T},zmM E all base fl st k=some r->
  ∃st':St,k st'=some r/\st'.h=st.h/\∀t,(∀f∈fl,f.1.dst≠some t)->get st'.s t=get st.s t
 |[],st,_,_,_,h=>⟨st,h,rfl,fun _ _=>rfl⟩
 |(o,j)::fl,st,T,k,r,h=>by
  simp only[zmM]at h;have I:∀{v:AV},zmM E all base fl ⟨putO o.dst v st.s,st.h⟩ k=some r->∃st':St,k st'=some r/\st'.h=st.h/\∀t,(∀f∈(o,j)::fl,f.1.dst≠some t)->get st'.s t=get st.s t:=by intro v h;obtain⟨st',B,O,J⟩:=zky h;exact⟨st',B,O,fun t H=>(J t (fun f S=>H f (nE _ S))).trans (jQ (H (o,j) nR))⟩
  split at h
  ·obtain⟨v,u,B,_⟩:=WO h;exact I B
  ·exact I h
  ·cases h
def CkF(E:Env)(all:List Oper)(base j:Nat)(o:Oper)(cs:St):Prop:=∃v,(∀d,o.dst=some d->get cs.s d=v)/\((zx all o cs=some true/\Loc E (nidOf all base j) o.op cs v [])\/(zx all o cs=some false/\v=.tup []))
theorem zyD{d:Option Nat}{v:AV}{st:St}(h:zeW d v st=true):∀e,d=some e->get st.s e=v:=by intro e j;subst j;exact (QK _ _ h).symm
theorem zec{st:St}:∀{fl:List (Oper×Nat)}{T:Type}{k:Option T}{r:T},zfs E all base fl st k=some r->k=some r/\∀f∈fl,CkF E all base f.2 f.1 st
 |[],_,_,_,h=>⟨h,fun f H=>by cases H⟩
 |(o,j)::fl,T,k,r,h=>by
  simp only[zfs]at h;split at h
  ·cases h
  ·rename_i B;have U:∀{v:AV},cond (zeW o.dst v st) (zfs E all base fl st k) none=some r->((zx all o st=some true/\Loc E (nidOf all base j) o.op st v [])\/(zx all o st=some false/\v=.tup []))->
     k=some r/\∀f∈(o,j)::fl,CkF E all base f.2 f.1 st:=by
    intro v h hc;cases hd:zeW o.dst v st with
    |false=>rw[hd]at h;cases h
    |true=>
     rw[hd,cond_true]at h;obtain⟨J,I⟩:=zec h;exact⟨J,fun f H=>by
      rcases nB.1 H with rfl|H
      ·exact⟨v,zyD hd,hc⟩
      ·exact I f H⟩
   split at h
   ·rename_i O;obtain⟨v,u,J,I⟩:=WO h;have S:u=[]:=by
     unfold zmi at B;rw[mF,nO,Xb O]at B;refine I.2.1 (jh B.1) ?_;rcases B.2 with h|h
     ·grind
     ·exact .inr (YZ h)
    grind
   ·grind
   ·cases h
def KontG(E:Env)(ops:List Oper)(base:Nat)(fs j:List (Oper×Nat)){T:Type}(k:St->Option T)(r:T)(cs:St):Prop:=match j with
 |[]=>k cs=some r
 |(o,i)::l=>zmP E ops base o i cs (fun st=>evG E ops base (beforeOf true ops) fs l (some i) st k)=some r
theorem zpe{ops:List Oper}{fs H:List (Oper×Nat)}{pa:Option Nat}{st:St}{T:Type}{k:St->Option T}{r:T}(hf:fs=ops.zipIdx.filter fun x=>!isAnch x.1.op)(h:evG E ops base (beforeOf true ops) fs H pa st k=some r):
  ∃cs,cs.h=st.h/\(∀t,(∀j o,ops[j]? =some o->isAnch o.op=false->(∀p,pa=some p->Anc ops j p)->o.dst≠some t)->get cs.s t=get st.s t)/\
   (∀j o,ops[j]? =some o->isAnch o.op=false->(∀x∈H,¬Anc ops j x.2)->(∀p,pa=some p->¬Anc ops p j)->CkF E ops base j o cs)/\KontG E ops base fs H k r cs:=by
 have B:∀{K:St->Option T},za6 E ops base (beforeOf true ops) fs H pa st K=some r->∃cs,cs.h=st.h/\(∀t,(∀j o,ops[j]? =some o->isAnch o.op=false->(∀p,pa=some p->Anc ops j p)->o.dst≠some t)->get cs.s t=get st.s t)/\
   (∀j o,ops[j]? =some o->isAnch o.op=false->(∀x∈H,¬Anc ops j x.2)->(∀p,pa=some p->¬Anc ops p j)->CkF E ops base j o cs)/\K cs=some r:=by
  intro K h;unfold za6 at h;obtain⟨cs,O,Y,U⟩:=zky h;obtain⟨h4,Z⟩:=zec O;refine⟨cs,Y,fun t ht=>U t (fun f I=>?_),fun j o hj ha hx hp=>?_,h4⟩
  ·rw[nP,mF]at I;obtain⟨m1,m2,m3⟩:=I;rw[hf,nP]at m1;obtain⟨m1,S⟩:=m1;refine ht f.2 f.1 (uAy.1 m1) (by simpa using S) fun p hp=>?_
   subst hp;exact zV (zG.1 m3)
  ·refine Z (o,j) ?_;rw[nP,mF];refine⟨?_,?_,?_⟩
   ·grind
   ·unfold zqj;rw[mT];intro x J;cases hb:memN x.2 ((beforeOf true ops)[j]?.getD [])with
    |false=>rfl
    |true=>exact absurd (zV (zG.1 hb)) (hx x J)
   ·unfold zCG;cases pa with
    |none=>rfl
    |some p=>
     show(!memN j ((beforeOf true ops)[p]?.getD []))=true;cases hb:memN j ((beforeOf true ops)[p]?.getD [])with
     |false=>rfl
     |true=>exact absurd (zV (zG.1 hb)) (hp p rfl)
 cases H with
 |nil=>exact B h
 |cons x l=>obtain⟨o,i⟩:=x;exact B h
variable {GP : Ro -> Prop} {c : Base}
def zhm(ops:List Oper)(B:Array Bool):List Nat:=(List.range ops.length).filter fun j=>!B.getD j false
structure AtG(E:Env)(GP:Ro->Prop)(c:Base)(ops:List Oper)(base:Nat)(fs az:List (Oper×Nat))(pa:Option Nat){T:Type}(k:St->Option T)(r:T)(cs:St)(listed:Array Bool)(s:St)(R:Ro)(G:List Res)(a:Act)(w:World):Prop where
 sz:listed.size=ops.length
 cl:∀i,listed.getD i false=true->∀o,ops[i]? =some o->∀e∈edgesOf o,listed.getD e false=true
 fit:Fit c E.n R G s a w
 gp:GP R
 len:s.h.length=base+rsvAll ops
 free:∀i o,ops[i]? =some o->listed.getD i false=false->FreeR s.h (nidOf ops base i) (rsv o)
 hp:s.h=cs.h
 sl:∀t,(∀j o,ops[j]? =some o->o.dst=some t->isAnch o.op=false->listed.getD j false=true)->get s.s t=get cs.s t
 an:∀i o,ops[i]? =some o->isAnch o.op=true->((o,i)∈az↔listed.getD i false=false)
 az2:∀f∈az,ops[f.2]? =some f.1/\isAnch f.1.op=true
 ch:az.Pairwise fun x y=>Anc ops y.2 x.2
 pal:∀p,pa=some p->listed.getD p false=true
 ck:∀j o,ops[j]? =some o->isAnch o.op=false->(∀x∈az,¬Anc ops j x.2)->(∀p,pa=some p->¬Anc ops p j)->CkF E ops base j o cs
 kont:KontG E ops base fs az k r cs
theorem zE9(hΓ:∀C∈E.Γ,SoundC E.P GP C)(hgl:∀R,GP R->GlobOK E.gl R)(hst:Stays GP){ops:List Oper}{T:Type}{r:T}{k:St->Option T}{Q:Exit->Act->World->Prop}{base:Nat}{fs:List (Oper×Nat)}(hS:StatOk E.n 0 ops)(hcm:c.m<=base)
  (hfs:fs=ops.zipIdx.filter fun x=>!isAnch x.1.op)
  (hlook:∀i o t j O,ops[i]? =some o->t∈o.looksAt ops.toArray->ops[j]? =some O->O.dst=some t->Anc ops i j\/isAnch O.op=true)
  (hK:∀st' R' G' a' w',k st'=some r->Fit c E.n R' G' st' a' w'->GP R'->Q .normal a' w'):
  ∀(J:Nat)(az:List (Oper×Nat))(pa:Option Nat)(cs:St)(B:Array Bool)(s:St)(R:Ro)(G:List Res)(a:Act)(w:World),AtG E GP c ops base fs az pa k r cs B s R G a w->(zhm ops B).length<=J->wpAny E.P .any ops.toArray Q J B a w:=by
 have hE:∀(j k:Nat)(O ok:Oper)(d:Nat),ops[j]? =some O->ops[k]? =some ok->O.dst=some d->ok.dst=some d->j=k:=by
  intro j k O ok d H hk hd hd';have h1:=(hS.lt j O d H hd).2;have h2:=(hS.lt k ok d hk hd').2
  grind
 have hend:∀(az:List (Oper×Nat))(pa:Option Nat)(cs:St)(B:Array Bool)(s:St)(R:Ro)(G:List Res)(a:Act)(w:World),AtG E GP c ops base fs az pa k r cs B s R G a w->Region.ready .any ops.toArray B=[]->Q .normal a w:=by
  intro az pa cs B s R G a w I hr;have hall:∀j,j<ops.length->B.getD j false=true:=by
   intro j;induction j using Nat.strongRecOn with
   |_ j ih=>
    intro H;cases hb:B.getD j false with
    |true=>rfl
    |false=>
     exfalso;have:j∈Region.ready .any ops.toArray B:=by
      rw[mem_ready];refine⟨?_,ops[j],by simp[H],fun e he hbind=>?_⟩
      ·have hlt:j<B.size:=by rw[I.sz];exact H
       grind
      ·have hlt:=hS.edge j ops[j] (by simp[H]) e.on (by
        unfold edgesOf;rw[uAs];exact⟨e,by simpa using he,by simp[hbind]⟩)
       grind
     rw[hr]at this;cases this
  have has:az=[]:=by
   cases az with
   |nil=>rfl
   |cons x l=>exfalso;obtain⟨h1,h2⟩:=I.az2 x nR;have h3:=(I.an x.2 x.1 h1 h2).1 nR;rw[hall x.2 (mG.1 h1).1]at h3;cases h3
  have hk:=I.kont;subst has;have hk:k cs=some r:=hk;have hsl:∀t,get s.s t=get cs.s t:=fun t=>I.sl t fun j o H _ _=>hall j (mG.1 H).1
  have F':Fit c E.n R G cs a w:=⟨by rw[<-I.hp];exact I.fit.wrel,by rw[<-I.hp];exact I.fit.since,fun t=>by rw[<-hsl t,<-I.hp];exact I.fit.slots t,I.fit.defers,I.fit.size⟩
  exact hK cs R G a w hk F' I.gp
 intro J;induction J with
 |zero=>
  intro az pa cs B s R G a w I hfu;have hr:Region.ready .any ops.toArray B=[]:=by
   rcases hc:Region.ready .any ops.toArray B with _|⟨i,l⟩
   ·rfl
   ·exfalso;have hi:i∈Region.ready .any ops.toArray B:=by rw[hc];simp
    rw[mem_ready]at hi;obtain⟨hun,o,ho,_⟩:=hi;have ho':ops[i]? =some o:=by simpa using ho
    have Y:i<ops.length:=(mG.1 ho').1;have hil:i<B.size:=by rw[I.sz];exact Y
    have hSi:B.getD i false=false:=by simp[hil]at hun⊢;exact hun
    have:i∈zhm ops B:=by
     unfold zhm
     grind
    grind
  exact⟨hr,hend az pa cs B s R G a w I hr⟩
 |succ J ih=>
  intro az pa cs B s R G a w I hfu;refine⟨fun hr=>hend az pa cs B s R G a w I hr,fun i hi=>?_⟩;rw[mem_ready]at hi;obtain⟨hun,o,ho,hall⟩:=hi;have ho':ops[i]? =some o:=by simpa using ho
  have Y:i<ops.length:=(mG.1 ho').1;have hil:i<B.size:=by rw[I.sz];exact Y
  have hSi:B.getD i false=false:=by simp[hil]at hun⊢;exact hun
  have hdir:∀e∈edgesOf o,B.getD e false=true:=by
   intro e he;unfold edgesOf at he
   grind
  have hanc:∀k j,Anc ops k j->B.getD k false=true->B.getD j false=true:=by
   intro k j h;induction h with
   |one h he=>intro hk;exact I.cl _ hk _ h _ he
   |more h he _ ih=>intro hk;exact ih (I.cl _ hk _ h _ he)
  have hanci:∀j,Anc ops i j->B.getD j false=true:=by
   intro j h;cases h with
   |one h he=>rw[ho']at h;cases h;exact hdir _ he
   |more h he h'=>rw[ho']at h;cases h;exact hanc _ _ h' (hdir _ he)
  have S:∀j,(B.setIfInBounds i true).getD j false=(B.getD j false||Nat.beq j i):=by
   intro j;by_cases U:j=i
   ·subst U;simp[hil]
   ·have hne:¬i=j:=fun h=>U h.symm
    have hb:Nat.beq j i=false:=by
     cases hb:Nat.beq j i with
     |false=>rfl
     |true=>exact absurd (mE hb) U
    simp[hb,Array.getElem?_setIfInBounds_ne hne]
  have hset2:∀j,j≠i->(B.setIfInBounds i true).getD j false=B.getD j false:=by
   intro j U;have hb:Nat.beq j i=false:=by
    cases hb:Nat.beq j i with
    |false=>rfl
    |true=>exact absurd (mE hb) U
   grind
  have hseti:(B.setIfInBounds i true).getD i false=true:=by rw[S,Nat.beq_refl,Bool.or_true]
  have hfu':(zhm ops (B.setIfInBounds i true)).length<=J:=by
   obtain⟨l1,l2,g1,g2,_⟩:=Zo (p:=fun j=>!B.getD j false) (q:=fun j=>!(B.setIfInBounds i true).getD j false) (l:=List.range ops.length) uAP (by simpa using Y) (by simp only[hSi];rfl)
    (fun j=>by rw[S];cases B.getD j false<;>cases Nat.beq j i<;>rfl)
   unfold zhm at hfu⊢
   grind
  have hcl':∀j,(B.setIfInBounds i true).getD j false=true->∀O,ops[j]? =some O->∀e∈edgesOf O,(B.setIfInBounds i true).getD e false=true:=by
   intro j H O hoj e he;rw[S]at H⊢;simp only[nO]at H⊢;rcases H with H|H
   ·exact .inl (I.cl j H O hoj e he)
   ·have:=mE H
    grind
  have hfree':∀{h':Heap},YW (nidOf ops base i) (rsv o) s.h h'->∀j O,ops[j]? =some O->(B.setIfInBounds i true).getD j false=false->FreeR h' (nidOf ops base j) (rsv O):=by
   intro h' hno j O hoj H x hx1 hx2;rw[S]at H;simp only[Bool.or_eq_false_iff]at H;have hne:j≠i:=fun e=>by rw[e]at H;simp at H
   refine hno x (fun hh=>?_) (I.free j O hoj H.1 x hx1 hx2);rcases Nat.lt_or_gt_of_ne hne with hlt|hlt
   ·have:=jE (base:=base) hoj ho' hlt;omega
   ·have:=jE (base:=base) ho' hoj hlt;omega
  have hops:∀t∈o.looksAt ops.toArray,get s.s t=get cs.s t:=fun t ht=>I.sl t fun j O H hd hf=>by
   grind
  have Z:zcX E.n o.dst=true:=by
   cases hd:o.dst with
   |none=>rfl
   |some d=>exact (hS.lt i o d ho' hd).1
  unfold wpOp;have hoA:ops.toArray[i]? =some o:=by simpa using ho'
  simp only[hoA];cases ha:isAnch o.op with
  |false=>
   obtain⟨v,hv,hc⟩:=I.ck i o ho' ha (fun x hx hA=>by
    obtain⟨h1,h2⟩:=I.az2 x hx;have h3:=(I.an x.2 x.1 h1 h2).1 hx;rw[hanci x.2 hA]at h3;cases h3) (fun p hp hA=>by
    have:=hanc p i hA (I.pal p hp);rw[hSi]at this;cases this)
   have next:∀(R':Ro)(G':List Res)(a':Act)(w':World),Fit c E.n R' G' ⟨putO o.dst v s.s,s.h⟩ a' w'->GP R'->wpAny E.P .any ops.toArray Q J (B.setIfInBounds i true) a' w':=by
    intro R' G' a' w' F' hGP';refine ih az pa cs (B.setIfInBounds i true) ⟨putO o.dst v s.s,s.h⟩ R' G' a' w' ⟨by simpa using I.sz,hcl',F',hGP',I.len,hfree' (fun _ _ h=>h),I.hp,fun t ht=>?_,fun j O H haj=>?_,I.az2,I.ch,fun p hp=>?_,I.ck,I.kont⟩ hfu'
    ·by_cases hd:o.dst=some t
     ·show get (putO o.dst v s.s) t=_;rw[hd];show get (put t v s.s) t=_;rw[js,if_pos rfl,hv t hd]
     ·show get (putO o.dst v s.s) t=_;rw[jQ hd];refine I.sl t fun j O H hdj hfj=>?_
      grind
    ·rw[hset2 j (fun e=>by subst e;rw[ho']at H;cases H;rw[ha]at haj;cases haj)];exact I.an j O H haj
    ·rw[S,I.pal p hp];rfl
   rcases hc with⟨hw,hloc⟩|⟨hw,rfl⟩
   ·have hw':=(zu hops).trans hw;have hloc':Loc E (nidOf ops base i) o.op s v []:=hloc.move (yc hops) (fun _=>I.hp) (fun _ _ _=>by rw[I.hp]);rw[jV I.fit hS hw',if_pos rfl];have heff:=hloc'.eff (AV×St) (fun v s=>some (v,s));refine .inl (Oper.wp_mono ?_ (Qs hΓ hgl I.fit I.gp (show c.m<=nidOf ops base i by unfold nidOf;omega) (I.free i o ho' hSi) (by rw[I.len];exact qM ho') heff));rintro a' w' ⟨v',st',R',G',V,h1,rfl,h2,h3,h4,h5,h6⟩;simp only[Option.some.injEq,Prod.mk.injEq]at h1;obtain⟨rfl,rfl⟩:=h1;exact next R' G' _ w' (h2.put Z h3) (hst R R' h6 I.gp)
   ·have hw':=(zu hops).trans hw;rw[jV I.fit hS hw'];simp only[nA,if_false];exact next R G _ w (I.fit.put (v:=.tup []) (V:=undef) Z ⟨[],rfl,rfl⟩) I.gp
  |true=>
   have hmem:=(I.an i o ho' ha).2 hSi;obtain⟨l,has⟩:∃l,az=(o,i)::l:=by
    have hch:=I.ch;have hin:=I.az2;have han:=I.an;cases az with
    |nil=>cases hmem
    |cons x l=>
     rcases nB.1 hmem with h|h
     ·grind
     ·exfalso;have h1:=(uAL.1 hch).1 (o,i) h
      grind
   have hk:=I.kont;rw[has]at hk;have hk:zmP E ops base o i cs (fun st=>evG E ops base (beforeOf true ops) fs l (some i) st k)=some r:=hk;obtain⟨v,D,hh,hk,heffs⟩:=zkz hk;obtain⟨cs',q1,q2,q3,q4⟩:=zpe hfs hk;have hch:=I.ch;rw[has]at hch;have hil2:(o,i)∉l:=fun h=>by
    have h1:=(uAL.1 hch).1 (o,i) h
    grind
   have next:∀(R':Ro)(G':List Res)(a':Act)(w':World),Fit c E.n R' G' ⟨putO o.dst v (scrub D s).s,hh⟩ a' w'->GP R'->YW (nidOf ops base i) (rsv o) s.h hh->hh.length=s.h.length->wpAny E.P .any ops.toArray Q J (B.setIfInBounds i true) a' w':=by
    intro R' G' a' w' F' hGP' hno hlen';refine ih l (some i) cs' (B.setIfInBounds i true) ⟨putO o.dst v (scrub D s).s,hh⟩ R' G' a' w' ⟨by simpa using I.sz,hcl',F',hGP',hlen'.trans I.len,hfree' hno,q1.symm,fun t ht=>?_,fun j O H haj=>?_,fun f hf=>I.az2 f (by rw[has];exact nE _ hf),(uAL.1 hch).2,fun p hp=>?_,q3,q4⟩ hfu'
    ·rw[q2 t fun j O H hfj hpj hdj=>?_]
     ·by_cases hd:o.dst=some t
      ·show get (putO o.dst v (scrub D s).s) t=get (putO o.dst v (scrub D cs).s) t;rw[hd];show get (put t v _) t=get (put t v _) t;rw[js,js,if_pos rfl,if_pos rfl]
      ·show get (putO o.dst v (scrub D s).s) t=get (putO o.dst v (scrub D cs).s) t;rw[jQ hd,jQ hd];refine zib D (I.sl t fun j O H hdj hfj=>?_)
       grind
     grind
    ·by_cases U:j=i
     ·grind
     ·rw[hset2 j U,<-I.an j O H haj,has,nB]
      grind
    grind
   rcases heffs s I.hp hops with⟨hw,hop⟩|⟨hw,rfl,rfl,rfl⟩
   ·rw[jV I.fit hS hw,if_pos rfl];refine .inl (Oper.wp_mono ?_ (Qs hΓ hgl I.fit I.gp (show c.m<=nidOf ops base i by unfold nidOf;omega) (I.free i o ho' hSi) (by rw[I.len];exact qM ho') hop));rintro a' w' ⟨v',st',R',G',V,h1,rfl,h2,h3,h4,h5,h6⟩;simp only[Option.some.injEq,Prod.mk.injEq]at h1;obtain⟨rfl,rfl⟩:=h1;exact next R' G' _ w' (h2.put Z h3) (hst R R' h6 I.gp) h4 h5
   ·rw[jV I.fit hS hw];simp only[nA,if_false];exact next R G _ w (I.fit.put (v:=.tup []) (V:=undef) Z ⟨[],rfl,rfl⟩) I.gp (fun _ _ h=>h) rfl
theorem zkK{ops:List Oper}:∀{l:List (Oper×Nat)},zna (beforeOf true ops) l=true->l.Pairwise fun x y=>Anc ops y.2 x.2
 |[],_=>List.Pairwise.nil
 |a::l,h=>by simp only[zna,mF]at h;refine uAL.2 ⟨fun b j=>?_,zkK h.2⟩;exact zV (zG.1 (mT.1 h.1 b j))
theorem zrf{n:Nat}{ops:List Oper}(h:zfI n ops (beforeOf true ops)=true):StatOk n 0 ops/\
  (∀i o t j I,ops[i]? =some o->t∈o.looksAt ops.toArray->ops[j]? =some I->I.dst=some t->Anc ops i j\/isAnch I.op=true)/\(ops.zipIdx.filter fun x=>isAnch x.1.op).Pairwise fun x y=>Anc ops y.2 x.2:=by
 unfold zfI at h;rw[mF]at h;obtain⟨h,hc⟩:=h;have H:∀(i:Nat)(o:Oper)(d:Nat),ops[i]? =some o->o.dst=some d->Nat.blt d n=true/\wrFrom ops 0 d=some i:=by
  intro i o d hi U;have B:=j3 h hi;simp only[mF]at B;obtain⟨⟨B,O⟩,h3⟩:=B;rw[U]at O;simp only[mF]at O;obtain⟨Z,S⟩:=O;refine⟨Z,?_⟩;split at S
  ·rename_i j J;rw[J,mE S]
  ·cases S
 refine⟨⟨fun i o hi e Y=>?_,H,fun _ _ _ _ _ _ _=>.inr (uAm _)⟩,fun i o t j I hi ht J U=>?_,zkK hc⟩
 ·have B:=j3 h hi;simp only[mF]at B;have:=mT.1 B.1.1 e Y;have:e+1<=i:=by simpa[Nat.blt]using this
  omega
 ·have B:=j3 h hi;simp only[mF]at B;have:=mT.1 B.2 t ht;rw[(H j I t J U).2]at this;simp only[J,nO,mF]at this;rcases this with this|⟨this,_⟩
  ·exact .inl (zV (zG.1 this))
  ·exact .inr this
theorem zrQ(hm:E.P.follows .mixedOrders=true)(hΓ:∀C∈E.Γ,SoundC E.P GP C)(Z:∀R,GP R->GlobOK E.gl R)(hst:Stays GP){ops:List Oper}{T:Type}{r:T}{k:St->Option T}{Q:Exit->Act->World->Prop}{st:St}{R:Ro}{G:List Res}
  {a:Act} {w:World} (F:Fit c E.n R G st a w) (S:GP R) (h:yp E ops st k=some r) (hK:∀st' R' G' a' w',k st'=some r->Fit c E.n R' G' st' a' w'->GP R'->Q .normal a' w') {id:Nat}:
  (Code.region id ops.toArray true).wp E.P Q a w:=by
 unfold yp at h;simp only[]at h;split at h
 ·rename_i I;obtain⟨hS,H,Y⟩:=zrf I;obtain⟨G0,F0,B,J⟩:=F.wide (rsvAll ops);have hcm:c.m<=st.h.length:=F.since.many;obtain⟨cs,q1,q2,q3,q4⟩:=zpe rfl h;have hf:∀j,(Array.replicate ops.toArray.size false).getD j false=false:=by
   intro j;by_cases O:j<ops.length
   ·simp[O]
   ·simp[O]
  refine wp_region_any hm ?_;refine zE9 hΓ Z hst hS hcm rfl H hK ops.toArray.size _ none cs _ ⟨st.s,wide st.h (rsvAll ops)⟩ R G0 a _
   ⟨sI,fun i hi=>?_,F0.keep (Keeps.drawn w _),S,J,fun i o hi _ x U hx2=>B x (by unfold nidOf at U;omega),q1.symm,fun t ht=>?_,fun i o hi ha=>?_,fun f hf1=>?_,Y,fun p hp=>(by cases hp),q3,q4⟩ ?_
  ·grind
  ·grind
  ·grind
  ·grind
  ·have h1:=List.length_filter_le (fun j=>!(Array.replicate ops.toArray.size false).getD j false) (List.range ops.length);have h2:(List.range ops.length).length=ops.toArray.size:=sI
   exact nD h1 (Nat.le_of_eq h2)
 ·cases h
end
end Go.Am
