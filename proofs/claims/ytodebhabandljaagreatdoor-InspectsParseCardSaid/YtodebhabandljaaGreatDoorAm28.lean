/-
  A part of the proof of the laws.
-/
import Derived.Test.YtodebhabandljaaGreatDoorAm17
namespace Go.Am
open Go Go.RowKit Go.Vc
theorem zd6{a b:IntKind}(h:kEq a b=true):a=b:=by cases a<;>cases b<;>first|rfl|cases h
mutual
theorem Qi:∀(a b:AV),zes a b=true->a=b
 |a,b,h=>by
  cases a<;>cases b<;>simp only[zes,kY,decide_eq_true_eq,beq_iff_eq,mR]at h;any_goals first
   |rfl
   |(subst h;rfl)
   |(rw[zd6 h.1,h.2])
   |(rw[kV h])
   |(rw[kV h.1,kV h.2])
   |(rw[h.1,h.2])
   |(rw[h.1.1,zd6 h.1.2,h.2])
   |(rw[Qi _ _ h])
   |(rw[h.1.1,kV h.1.2,yo _ _ h.2])
   |(rw[kV h.1.1,kV h.1.2,h.2.1,h.2.2])
   |(rw[kV h.1.1,yo _ _ h.1.2,yo _ _ h.2])
   |(rw[yo _ _ h])
   |(rw[kV h.1.1,kV h.1.2,h.2.1,kV h.2.2])
   |(rw[zd6 h])
   |(rw[kV h.1,Qi _ _ h.2])
theorem yo:∀(a b:List AV),qA a b=true->a=b
 |[],[],_=>rfl
 |a::r,b::s,h=>by simp only[qA,kY]at h;rw[Qi a b h.1,yo r s h.2]
 |[],_::_,h=>by cases h
 |_::_,[],h=>by cases h
end
section
variable {E : Env} {all : List Oper} {base : Nat}
theorem zfZ{nid:Nat}{op:Op}(ha:qk op=true){st:St}{T:Type}{k:AV->St->Option T}{r:T}(h:opK E false nid op st k=some r):
  ∃v D hh,k v ⟨(scrub D st).s,hh⟩=some r/\∀st':St,st'.h=st.h->(∀x∈op.operands,opnd E.gl st'.s x=opnd E.gl st.s x)->∀(T':Type)(J:AV->St->Option T'),opK E false nid op st' J=J v ⟨(scrub D st').s,hh⟩:=by
 unfold qk at ha;split at ha
 ·rename_i y ats;simp only[opK]at h;split at h
  ·rename_i t tx s x _ e1 O;have Z:∀st':St,(∀x∈(Op.call ⟨.builtin .append,y,ats⟩).operands,opnd E.gl st'.s x=opnd E.gl st.s x)->opnd E.gl st'.s s=opnd E.gl st.s s/\opnd E.gl st'.s x=opnd E.gl st.s x:=fun st' ho=>by
    have B:y= #[s,x]:=by apply nP;simpa using O
    subst B;exact⟨ho s (by simp[Op.operands,Call.operands]),ho x (by simp[Op.operands,Call.operands])⟩
   split at h
   ·rename_i bb cc o I;cases bb with
    |false=>rw[cond_false]at h;refine⟨_,[],st.h,h,fun st' hh ho T' J=>?_⟩;obtain⟨H,o2⟩:=Z st' ho;simp only[opK,e1,O,H,o2,hh,I,cond_false];rw[<-hh];rfl
    |true=>rw[cond_true]at h;obtain⟨rfl,h⟩:=zm h;refine⟨_,[],_,h,fun st' hh ho T' J=>?_⟩;obtain⟨H,o2⟩:=Z st' ho;simp only[opK,e1,O,H,o2,hh,I,cond_true];rfl
   ·rename_i U;split at h
    ·rename_i cc j o I;obtain⟨hc,h⟩:=zm h;refine⟨_,[j],_,h,fun st' hh ho T' J=>?_⟩;obtain⟨H,o2⟩:=Z st' ho;simp only[opK,e1,O,H,o2,hh,U,I,hc];rw[show(scrub [j] st').h=(scrub [j] st).h by show st'.h.map _=st.h.map _;rw[hh]];rfl
    ·rename_i cc o I;obtain⟨hc,h⟩:=zm h;refine⟨_,[],_,h,fun st' hh ho T' J=>?_⟩;obtain⟨H,o2⟩:=Z st' ho;simp only[opK,e1,O,H,o2,hh,U,I,hc];rfl
    ·cases h
  ·contradiction
  ·cases h
 ·cases ha
theorem zl0{D:List Nat}{st st':St}(h:st'.h=st.h):(scrub D st').h=(scrub D st).h:=by
 cases D with
 |nil=>exact h
 |cons a r=>show st'.h.map _=st.h.map _;rw[h]
theorem zfN{nid:Nat}{f:FuncId}{j:List AV}{st:St}{T:Type}{k:AV->St->Option T}{r:T}(h:yc E false nid f j st k=some r):
  ∃v D hh,k v ⟨(scrub D st).s,hh⟩=some r/\∀st':St,st'.h=st.h->∀(T':Type)(B:AV->St->Option T'),yc E false nid f j st' B=B v ⟨(scrub D st').s,hh⟩:=by
 unfold yc at h;simp only[]at h;split at h
 ·rename_i J hv Z h2 h3;obtain⟨o,y,_,U⟩:=ZP h;split at y
  ·rename_i v ho g1 g2 g3 O;split at y
   ·rename_i I;refine⟨v,[],_,y,fun st' H T' B=>?_⟩;unfold yc;simp only[H,Z,h2,h3];rw[U];simp only[g1,g2,g3,O,I];rfl
   ·rename_i I;generalize hgo:J2 (reach st.h 1000 (idsL j) []++newIds nid (o.h.length-(reach st.h 1000 (idsL j) []).length)) ho=D0 at y I;cases D0 with
    |nil=>exact absurd rfl I
    |cons d D=>refine⟨v,d::D,_,y,fun st' H T' B=>?_⟩;unfold yc;simp only[H,Z,h2,h3];rw[U];simp only[g1,g2,g3,O,hgo];rw[zl0 (st:=⟨st.s,st.h⟩) (st':=⟨st'.s,st.h⟩) rfl];exact congrArg (fun x=>B v ⟨(scrub (d::D) x).s,_⟩) (show(⟨st'.s,st.h⟩:St)=st' by rw[<-H])
  ·cases y
 ·cases h
theorem zfM{nid:Nat}{n:Int}{j:List AV}{st:St}{T:Type}{k:AV->St->Option T}{r:T}:∀{fs:List FuncId}{i:Nat},Jy E false nid n j st k i fs=some r->
  ∃v D hh,k v ⟨(scrub D st).s,hh⟩=some r/\∀st':St,st'.h=st.h->∀(T':Type)(y:AV->St->Option T'),Jy E false nid n j st' y i fs=y v ⟨(scrub D st').s,hh⟩
 |[],_,h=>by cases h
 |f::fs,i,h=>by
  simp only[Jy]at h;cases hb:decide (n=(i:Int))with
  |true=>rw[hb,cond_true]at h;obtain⟨v,D,hh,H,I⟩:=zfN h;exact⟨v,D,hh,H,fun st' B T' y=>by simp only[Jy,hb,cond_true];exact I st' B T' y⟩
  |false=>rw[hb,cond_false]at h;obtain⟨v,D,hh,H,I⟩:=zfM h;exact⟨v,D,hh,H,fun st' B T' y=>by simp only[Jy,hb,cond_false];exact I st' B T' y⟩
theorem zu4{nid:Nat}{op:Op}{st:St}{T:Type}{k:AV->St->Option T}{r:T}(h:opK E (zak op) nid op st k=some r):
  ∃v D hh,k v ⟨(scrub D st).s,hh⟩=some r/\∀st':St,st'.h=st.h->(∀x∈op.operands,opnd E.gl st'.s x=opnd E.gl st.s x)->∀(T':Type)(B:AV->St->Option T'),opK E (zak op) nid op st' B=B v ⟨(scrub D st').s,hh⟩:=by
 have j:zak op=true->∃v D hh,k v ⟨(scrub D st).s,hh⟩=some r/\∀st':St,st'.h=st.h->(∀x∈op.operands,opnd E.gl st'.s x=opnd E.gl st.s x)->∀(T':Type)(B:AV->St->Option T'),opK E (zak op) nid op st' B=B v ⟨(scrub D st').s,hh⟩:=by intro hs;rw[hs]at h⊢;obtain⟨v,u,O,U⟩:=XD h;refine⟨v,[],jF st.h u,O,fun st' I ho T' B=>?_⟩;have:=U.2.2.1 st' ho (fun _=>I) (fun _ _ _=>by rw[I]) T' B;rw[this,I];rfl
 by_cases ha:qk op=true
 ·have hs:zak op=false:=by
   unfold qk at ha;split at ha
   ·rfl
   ·cases ha
  rw[hs]at h⊢;exact zfZ ha h
 ·cases op with
  |call c=>
   obtain⟨callee,y,J⟩:=c;cases callee with
   |value f=>
    have H:∀st':St,(∀x∈(Op.call ⟨.value f,y,J⟩).operands,opnd E.gl st'.s x=opnd E.gl st.s x)->opnd E.gl st'.s f=opnd E.gl st.s f/\y.toList.map (opnd E.gl st'.s)=y.toList.map (opnd E.gl st.s):=fun st' ho=>⟨ho f (by simp[Op.operands,Call.operands]),uAk fun x hx=>ho x (by simp only[Op.operands,Call.operands];simp;exact .inr (by simpa using hx))⟩
    show∃v D hh,_/\∀st':St,_->_->∀(T':Type)(B:AV->St->Option T'),opK E false nid (.call ⟨.value f,y,J⟩) st' B=_;have h:opK E false nid (.call ⟨.value f,y,J⟩) st k=some r:=h;simp only[opK]at h;split at h
    ·rename_i g first cap hg
     obtain⟨v,D,hh,O,U⟩:=zfN h;refine⟨v,D,hh,O,fun st' I ho T' B=>?_⟩;obtain⟨Z,o2⟩:=H st' ho;simp only[opK,Z,o2,hg];exact U st' I T' B
    ·rename_i n fs hg;obtain⟨v,D,hh,O,U⟩:=zfM h;refine⟨v,D,hh,O,fun st' I ho T' B=>?_⟩;obtain⟨Z,o2⟩:=H st' ho;simp only[opK,Z,o2,hg];exact U st' I T' B
    ·cases h
   |builtin b=>
    cases b with
    |append=>exact absurd rfl ha
    |_=>exact j rfl
   |invoke r m=>exact j rfl
  |_=>exact j rfl
theorem zfn(D:List Nat){s j:St}{t:Nat}(h:get j.s t=get s.s t):get (scrub D j).s t=get (scrub D s).s t:=by
 cases D with
 |nil=>exact h
 |cons a r=>show get (j.s.map _) t=get (s.s.map _) t;rw[YL,YL,h]
theorem zhb{o:Oper}{i:Nat}{st:St}{T:Type}{K:St->Option T}{r:T}(h:zjo E all base o i st K=some r):
  ∃v D hh,K ⟨putO o.dst v (scrub D st).s,hh⟩=some r/\∀st':St,st'.h=st.h->(∀t∈o.looksAt all.toArray,get st'.s t=get st.s t)->
   (zC all o st'=some true/\opK E (zak o.op) (nidOf all base i) o.op st' (fun v s=>some (v,s))=some (v,⟨(scrub D st').s,hh⟩))\/(zC all o st'=some false/\v=.tup []/\D=[]/\hh=st'.h):=by
 unfold zjo at h;split at h
 ·rename_i B;obtain⟨v,D,hh,H,I⟩:=zu4 h;exact⟨v,D,hh,H,fun st' y j=>.inl ⟨(zy j).trans B,I st' y (jV j) _ _⟩⟩
 ·rename_i B;exact⟨.tup [],[],st.h,h,fun st' y j=>.inr ⟨(zy j).trans B,rfl,rfl,y.symm⟩⟩
 ·cases h
theorem zg9:∀{fl:List (Oper×Nat)}{st:St}{T:Type}{k:St->Option T}{r:T},zjl E all base fl st k=some r->
  ∃st':St,k st'=some r/\st'.h=st.h/\∀t,(∀f∈fl,f.1.dst≠some t)->get st'.s t=get st.s t
 |[],st,_,_,_,h=>⟨st,h,rfl,fun _ _=>rfl⟩
 |(o,j)::fl,st,T,k,r,h=>by
  simp only[zjl]at h;have H:∀{v:AV},zjl E all base fl ⟨putO o.dst v st.s,st.h⟩ k=some r->∃st':St,k st'=some r/\st'.h=st.h/\∀t,(∀f∈(o,j)::fl,f.1.dst≠some t)->get st'.s t=get st.s t:=by intro v h;obtain⟨st',y,O,J⟩:=zg9 h;exact⟨st',y,O,fun t B=>(J t (fun f I=>B f (mU _ I))).trans (jA (B (o,j) mV))⟩
  split at h
  ·obtain⟨v,u,y,_⟩:=XD h;exact H y
  ·exact H h
  ·cases h
def CkF(E:Env)(all:List Oper)(base j:Nat)(o:Oper)(cs:St):Prop:=∃v,(∀d,o.dst=some d->get cs.s d=v)/\((zC all o cs=some true/\Loc E (nidOf all base j) o.op cs v [])\/(zC all o cs=some false/\v=.tup []))
theorem zuI{d:Option Nat}{v:AV}{st:St}(h:zbR d v st=true):∀e,d=some e->get st.s e=v:=by intro e j;subst j;exact (Qi _ _ h).symm
theorem za9{st:St}:∀{fl:List (Oper×Nat)}{T:Type}{k:Option T}{r:T},zce E all base fl st k=some r->k=some r/\∀f∈fl,CkF E all base f.2 f.1 st
 |[],_,_,_,h=>⟨h,fun f B=>by cases B⟩
 |(o,j)::fl,T,k,r,h=>by
  simp only[zce]at h;split at h
  ·cases h
  ·rename_i y;have O:∀{v:AV},cond (zbR o.dst v st) (zce E all base fl st k) none=some r->((zC all o st=some true/\Loc E (nidOf all base j) o.op st v [])\/(zC all o st=some false/\v=.tup []))->
     k=some r/\∀f∈(o,j)::fl,CkF E all base f.2 f.1 st:=by
    intro v h hc;cases hd:zbR o.dst v st with
    |false=>rw[hd]at h;cases h
    |true=>
     rw[hd,cond_true]at h;obtain⟨J,H⟩:=za9 h;exact⟨J,fun f B=>by
      rcases mS.1 B with rfl|B
      ·exact⟨v,zuI hd,hc⟩
      ·exact H f B⟩
   split at h
   ·rename_i I;obtain⟨v,u,J,H⟩:=XD h;have U:u=[]:=by
     unfold ziN at y;rw[kY,nW,Ya I]at y;refine H.2.1 (ja y.1) ?_;rcases y.2 with h|h
     ·exact .inl (by simpa using h)
     ·exact .inr (Jp h)
    subst U;exact O J (.inl ⟨I,H⟩)
   ·rename_i I;exact O h (.inr ⟨I,rfl⟩)
   ·cases h
def KontG(E:Env)(ops:List Oper)(base:Nat)(fs j:List (Oper×Nat)){T:Type}(k:St->Option T)(r:T)(cs:St):Prop:=match j with
 |[]=>k cs=some r
 |(o,i)::l=>zjo E ops base o i cs (fun st=>evG E ops base (beforeOf true ops) fs l (some i) st k)=some r
theorem zlg{ops:List Oper}{fs H:List (Oper×Nat)}{B:Option Nat}{st:St}{T:Type}{k:St->Option T}{r:T}(U:fs=ops.zipIdx.filter fun x=>!isAnch x.1.op)(h:evG E ops base (beforeOf true ops) fs H B st k=some r):
  ∃cs,cs.h=st.h/\(∀t,(∀j o,ops[j]? =some o->isAnch o.op=false->(∀p,B=some p->Anc ops j p)->o.dst≠some t)->get cs.s t=get st.s t)/\
   (∀j o,ops[j]? =some o->isAnch o.op=false->(∀x∈H,¬Anc ops j x.2)->(∀p,B=some p->¬Anc ops p j)->CkF E ops base j o cs)/\KontG E ops base fs H k r cs:=by
 have y:∀{K:St->Option T},Kr E ops base (beforeOf true ops) fs H B st K=some r->∃cs,cs.h=st.h/\(∀t,(∀j o,ops[j]? =some o->isAnch o.op=false->(∀p,B=some p->Anc ops j p)->o.dst≠some t)->get cs.s t=get st.s t)/\
   (∀j o,ops[j]? =some o->isAnch o.op=false->(∀x∈H,¬Anc ops j x.2)->(∀p,B=some p->¬Anc ops p j)->CkF E ops base j o cs)/\K cs=some r:=by
  intro K h;unfold Kr at h;obtain⟨cs,h1,h2,h3⟩:=zg9 h;obtain⟨h4,h5⟩:=za9 h1;refine⟨cs,h2,fun t Z=>h3 t (fun f I=>?_),fun j o hj ha hx hp=>?_,h4⟩
  ·rw[nB,kY]at I;obtain⟨J,m2,m3⟩:=I;rw[U,nB]at J;obtain⟨J,m4⟩:=J;refine Z f.2 f.1 (uAa.1 J) (by simpa using m4) fun p hp=>?_
   subst hp;exact zU (zA.1 m3)
  ·refine h5 (o,j) ?_;rw[nB,kY];refine⟨?_,?_,?_⟩
   ·rw[U,nB];exact⟨uAa.2 hj,by simp[ha]⟩
   ·unfold zlS;rw[mK];intro x O;cases hb:memN x.2 ((beforeOf true ops)[j]?.getD [])with
    |false=>rfl
    |true=>exact absurd (zU (zA.1 hb)) (hx x O)
   ·unfold zzq;cases B with
    |none=>rfl
    |some p=>
     show(!memN j ((beforeOf true ops)[p]?.getD []))=true;cases hb:memN j ((beforeOf true ops)[p]?.getD [])with
     |false=>rfl
     |true=>exact absurd (zU (zA.1 hb)) (hp p rfl)
 cases H with
 |nil=>exact y h
 |cons x l=>obtain⟨o,i⟩:=x;exact y h
variable {GP : Ro -> Prop} {c : Base}
def zb3(ops:List Oper)(y:Array Bool):List Nat:=(List.range ops.length).filter fun j=>!y.getD j false
structure AtG(E:Env)(GP:Ro->Prop)(c:Base)(ops:List Oper)(base:Nat)(fs az:List (Oper×Nat))(pa:Option Nat){T:Type}(k:St->Option T)(r:T)(cs:St)(listed:Array Bool)(s:St)(R:Ro)(G:List Res)(a:Act)(w:World):Prop where
 sz:listed.size=ops.length
 cl:∀i,listed.getD i false=true->∀o,ops[i]? =some o->∀e∈edgesOf o,listed.getD e false=true
 fit:Fit c E.n R G s a w
 gp:GP R
 len:s.h.length=base+rsvAll ops
 free:∀i o,ops[i]? =some o->listed.getD i false=false->FreeR s.h (nidOf ops base i) (rsv o)
 hp:s.h=cs.h
 sl:∀t,(∀j o,ops[j]? =some o->o.dst=some t->isAnch o.op=false->listed.getD j false=true)->get s.s t=get cs.s t
 an:∀i o,ops[i]? =some o->isAnch o.op=true->((o,i)∈az↔listed.getD i false=false)
 az2:∀f∈az,ops[f.2]? =some f.1/\isAnch f.1.op=true
 ch:az.Pairwise fun x y=>Anc ops y.2 x.2
 pal:∀p,pa=some p->listed.getD p false=true
 ck:∀j o,ops[j]? =some o->isAnch o.op=false->(∀x∈az,¬Anc ops j x.2)->(∀p,pa=some p->¬Anc ops p j)->CkF E ops base j o cs
 kont:KontG E ops base fs az k r cs
theorem zBN(hΓ:∀C∈E.Γ,SoundC E.P GP C)(hgl:∀R,GP R->GlobOK E.gl R)(hst:Stays GP){ops:List Oper}{T:Type}{r:T}{k:St->Option T}{Q:Exit->Act->World->Prop}{base:Nat}{fs:List (Oper×Nat)}(hS:StatOk E.n 0 ops)(hcm:c.m<=base)
  (hfs:fs=ops.zipIdx.filter fun x=>!isAnch x.1.op)
  (hlook:∀i o t j H,ops[i]? =some o->t∈o.looksAt ops.toArray->ops[j]? =some H->H.dst=some t->Anc ops i j\/isAnch H.op=true)
  (hK:∀st' R' G' a' w',k st'=some r->Fit c E.n R' G' st' a' w'->GP R'->Q .normal a' w'):
  ∀(J:Nat)(az:List (Oper×Nat))(pa:Option Nat)(cs:St)(y:Array Bool)(s:St)(R:Ro)(G:List Res)(a:Act)(w:World),AtG E GP c ops base fs az pa k r cs y s R G a w->(zb3 ops y).length<=J->wpAny E.P .any ops.toArray Q J y a w:=by
 have hE:∀(j k:Nat)(H ok:Oper)(d:Nat),ops[j]? =some H->ops[k]? =some ok->H.dst=some d->ok.dst=some d->j=k:=by intro j k H ok d B hk hd hd';have h1:=(hS.lt j H d B hd).2;have h2:=(hS.lt k ok d hk hd').2;rw[h1]at h2;exact Option.some.inj h2
 have hend:∀(az:List (Oper×Nat))(pa:Option Nat)(cs:St)(y:Array Bool)(s:St)(R:Ro)(G:List Res)(a:Act)(w:World),AtG E GP c ops base fs az pa k r cs y s R G a w->Region.ready .any ops.toArray y=[]->Q .normal a w:=by
  intro az pa cs y s R G a w I hr;have hall:∀j,j<ops.length->y.getD j false=true:=by
   intro j;induction j using Nat.strongRecOn with
   |_ j ih=>
    intro B;cases hb:y.getD j false with
    |true=>rfl
    |false=>
     exfalso;have:j∈Region.ready .any ops.toArray y:=by
      rw[mem_ready];refine⟨?_,ops[j],by simp[B],fun e he hbind=>?_⟩
      ·have hlt:j<y.size:=by rw[I.sz];exact B
       simp[hlt]at hb⊢;exact hb
      ·have hlt:=hS.edge j ops[j] (by simp[B]) e.on (by
        unfold edgesOf;rw[uAn];exact⟨e,by simpa using he,by simp[hbind]⟩)
       exact ih e.on hlt (by omega)
     rw[hr]at this;cases this
  have has:az=[]:=by
   cases az with
   |nil=>rfl
   |cons x l=>exfalso;obtain⟨h1,h2⟩:=I.az2 x mV;have h3:=(I.an x.2 x.1 h1 h2).1 mV;rw[hall x.2 (kX.1 h1).1]at h3;cases h3
  have hk:=I.kont;subst has;have hk:k cs=some r:=hk;have hsl:∀t,get s.s t=get cs.s t:=fun t=>I.sl t fun j o B _ _=>hall j (kX.1 B).1
  have F':Fit c E.n R G cs a w:=⟨by rw[<-I.hp];exact I.fit.wrel,by rw[<-I.hp];exact I.fit.since,fun t=>by rw[<-hsl t,<-I.hp];exact I.fit.slots t,I.fit.defers,I.fit.size⟩
  exact hK cs R G a w hk F' I.gp
 intro J;induction J with
 |zero=>
  intro az pa cs y s R G a w I hfu;have hr:Region.ready .any ops.toArray y=[]:=by
   rcases hc:Region.ready .any ops.toArray y with _|⟨i,l⟩
   ·rfl
   ·exfalso;have hi:i∈Region.ready .any ops.toArray y:=by rw[hc];simp
    rw[mem_ready]at hi;obtain⟨hun,o,ho,_⟩:=hi;have ho':ops[i]? =some o:=by simpa using ho
    have hilt:i<ops.length:=(kX.1 ho').1;have hil:i<y.size:=by rw[I.sz];exact hilt
    have hSi:y.getD i false=false:=by simp[hil]at hun⊢;exact hun
    have:i∈zb3 ops y:=by unfold zb3;rw[nB];exact⟨by simpa using hilt,by rw[hSi];rfl⟩
    rw[mW.1 (by omega:(zb3 ops y).length=0)]at this;cases this
  exact⟨hr,hend az pa cs y s R G a w I hr⟩
 |succ J ih=>
  intro az pa cs y s R G a w I hfu;refine⟨fun hr=>hend az pa cs y s R G a w I hr,fun i hi=>?_⟩;rw[mem_ready]at hi;obtain⟨hun,o,ho,hall⟩:=hi;have ho':ops[i]? =some o:=by simpa using ho
  have hilt:i<ops.length:=(kX.1 ho').1;have hil:i<y.size:=by rw[I.sz];exact hilt
  have hSi:y.getD i false=false:=by simp[hil]at hun⊢;exact hun
  have hdir:∀e∈edgesOf o,y.getD e false=true:=by
   intro e he;unfold edgesOf at he;rw[uAn]at he;obtain⟨x,hx,hxe⟩:=he;split at hxe
   ·rename_i hb;cases hxe;exact hall x (by simpa using hx) hb
   ·cases hxe
  have hanc:∀k j,Anc ops k j->y.getD k false=true->y.getD j false=true:=by
   intro k j h;induction h with
   |one h he=>intro hk;exact I.cl _ hk _ h _ he
   |more h he _ ih=>intro hk;exact ih (I.cl _ hk _ h _ he)
  have hanci:∀j,Anc ops i j->y.getD j false=true:=by
   intro j h;cases h with
   |one h he=>rw[ho']at h;cases h;exact hdir _ he
   |more h he h'=>rw[ho']at h;cases h;exact hanc _ _ h' (hdir _ he)
  have Z:∀j,(y.setIfInBounds i true).getD j false=(y.getD j false||Nat.beq j i):=by
   intro j;by_cases O:j=i
   ·subst O;simp[hil]
   ·have hne:¬i=j:=fun h=>O h.symm
    have hb:Nat.beq j i=false:=by
     cases hb:Nat.beq j i with
     |false=>rfl
     |true=>exact absurd (kV hb) O
    simp[hb,Array.getElem?_setIfInBounds_ne hne]
  have U:∀j,j≠i->(y.setIfInBounds i true).getD j false=y.getD j false:=by
   intro j O;have hb:Nat.beq j i=false:=by
    cases hb:Nat.beq j i with
    |false=>rfl
    |true=>exact absurd (kV hb) O
   rw[Z,hb,Bool.or_false]
  have hseti:(y.setIfInBounds i true).getD i false=true:=by rw[Z,Nat.beq_refl,Bool.or_true]
  have hfu':(zb3 ops (y.setIfInBounds i true)).length<=J:=by
   obtain⟨l1,l2,g1,g2,_⟩:=qt (p:=fun j=>!y.getD j false) (q:=fun j=>!(y.setIfInBounds i true).getD j false) (l:=List.range ops.length) uAK (by simpa using hilt) (by simp only[hSi];rfl)
    (fun j=>by rw[Z];cases y.getD j false<;>cases Nat.beq j i<;>rfl)
   unfold zb3 at hfu⊢;rw[g1]at hfu;rw[g2];simp at hfu⊢;omega
  have hcl':∀j,(y.setIfInBounds i true).getD j false=true->∀H,ops[j]? =some H->∀e∈edgesOf H,(y.setIfInBounds i true).getD e false=true:=by
   intro j B H hoj e he;rw[Z]at B⊢;simp only[nW]at B⊢;rcases B with B|B
   ·exact .inl (I.cl j B H hoj e he)
   ·have:=kV B;subst this;rw[ho']at hoj;cases hoj;exact .inl (hdir e he)
  have hfree':∀{h':Heap},Jm (nidOf ops base i) (rsv o) s.h h'->∀j H,ops[j]? =some H->(y.setIfInBounds i true).getD j false=false->FreeR h' (nidOf ops base j) (rsv H):=by
   intro h' hno j H hoj B x hx1 hx2;rw[Z]at B;simp only[Bool.or_eq_false_iff]at B;have hne:j≠i:=fun e=>by rw[e]at B;simp at B
   refine hno x (fun hh=>?_) (I.free j H hoj B.1 x hx1 hx2);rcases Nat.lt_or_gt_of_ne hne with hlt|hlt
   ·have:=js (base:=base) hoj ho' hlt;omega
   ·have:=js (base:=base) ho' hoj hlt;omega
  have hops:∀t∈o.looksAt ops.toArray,get s.s t=get cs.s t:=fun t ht=>I.sl t fun j H B hd hf=>by
   rcases hlook i o t j H ho' ht B hd with h|h
   ·exact hanci j h
   ·rw[hf]at h;cases h
  have hdst:zae E.n o.dst=true:=by
   cases hd:o.dst with
   |none=>rfl
   |some d=>exact (hS.lt i o d ho' hd).1
  unfold wpOp;have hoA:ops.toArray[i]? =some o:=by simpa using ho'
  simp only[hoA];cases ha:isAnch o.op with
  |false=>
   obtain⟨v,hv,hc⟩:=I.ck i o ho' ha (fun x hx hA=>by
    obtain⟨h1,h2⟩:=I.az2 x hx;have h3:=(I.an x.2 x.1 h1 h2).1 hx;rw[hanci x.2 hA]at h3;cases h3) (fun p hp hA=>by
    have:=hanc p i hA (I.pal p hp);rw[hSi]at this;cases this)
   have next:∀(R':Ro)(G':List Res)(a':Act)(w':World),Fit c E.n R' G' ⟨putO o.dst v s.s,s.h⟩ a' w'->GP R'->wpAny E.P .any ops.toArray Q J (y.setIfInBounds i true) a' w':=by
    intro R' G' a' w' F' hGP';refine ih az pa cs (y.setIfInBounds i true) ⟨putO o.dst v s.s,s.h⟩ R' G' a' w' ⟨by simpa using I.sz,hcl',F',hGP',I.len,hfree' (fun _ _ h=>h),I.hp,fun t ht=>?_,fun j H B haj=>?_,I.az2,I.ch,fun p hp=>?_,I.ck,I.kont⟩ hfu'
    ·by_cases hd:o.dst=some t
     ·show get (putO o.dst v s.s) t=_;rw[hd];show get (put t v s.s) t=_;rw[jf,if_pos rfl,hv t hd]
     ·show get (putO o.dst v s.s) t=_;rw[jA hd];refine I.sl t fun j H B hdj hfj=>?_
      have:=ht j H B hdj hfj;rwa [U j (fun e=>by subst e;rw[ho']at B;cases B;exact hd hdj)]at this
    ·rw[U j (fun e=>by subst e;rw[ho']at B;cases B;rw[ha]at haj;cases haj)];exact I.an j H B haj
    ·rw[Z,I.pal p hp];rfl
   rcases hc with⟨hw,hloc⟩|⟨hw,rfl⟩
   ·have hw':=(zy hops).trans hw;have hloc':Loc E (nidOf ops base i) o.op s v []:=hloc.move (jV hops) (fun _=>I.hp) (fun _ _ _=>by rw[I.hp]);rw[jJ I.fit hS hw',if_pos rfl];have heff:=hloc'.eff (AV×St) (fun v s=>some (v,s));refine .inl (Oper.wp_mono ?_ (JE hΓ hgl I.fit I.gp (show c.m<=nidOf ops base i by unfold nidOf;omega) (I.free i o ho' hSi) (by rw[I.len];exact yZ ho') heff));rintro a' w' ⟨v',st',R',G',V,h1,rfl,h2,h3,h4,h5,h6⟩;simp only[Option.some.injEq,Prod.mk.injEq]at h1;obtain⟨rfl,rfl⟩:=h1;exact next R' G' _ w' (h2.put hdst h3) (hst R R' h6 I.gp)
   ·have hw':=(zy hops).trans hw;rw[jJ I.fit hS hw'];simp only[mR,if_false];exact next R G _ w (I.fit.put (v:=.tup []) (V:=undef) hdst ⟨[],rfl,rfl⟩) I.gp
  |true=>
   have hmem:=(I.an i o ho' ha).2 hSi;obtain⟨l,has⟩:∃l,az=(o,i)::l:=by
    have hch:=I.ch;have hin:=I.az2;have han:=I.an;cases az with
    |nil=>cases hmem
    |cons x l=>
     rcases mS.1 hmem with h|h
     ·exact⟨l,by rw[<-h]⟩
     ·exfalso;have h1:=(uAH.1 hch).1 (o,i) h;obtain⟨h2,h3⟩:=hin x mV;have h4:=(han x.2 x.1 h2 h3).1 mV;rw[hanci x.2 h1]at h4;cases h4
   have hk:=I.kont;rw[has]at hk;have hk:zjo E ops base o i cs (fun st=>evG E ops base (beforeOf true ops) fs l (some i) st k)=some r:=hk;obtain⟨v,D,hh,hk,heffs⟩:=zhb hk;obtain⟨cs',q1,q2,q3,q4⟩:=zlg hfs hk;have hch:=I.ch;rw[has]at hch;have hil2:(o,i)∉l:=fun h=>by have h1:=(uAH.1 hch).1 (o,i) h;have:=h1.lt hS.edge;simp only at this;omega
   have next:∀(R':Ro)(G':List Res)(a':Act)(w':World),Fit c E.n R' G' ⟨putO o.dst v (scrub D s).s,hh⟩ a' w'->GP R'->Jm (nidOf ops base i) (rsv o) s.h hh->hh.length=s.h.length->wpAny E.P .any ops.toArray Q J (y.setIfInBounds i true) a' w':=by
    intro R' G' a' w' F' hGP' hno hlen';refine ih l (some i) cs' (y.setIfInBounds i true) ⟨putO o.dst v (scrub D s).s,hh⟩ R' G' a' w' ⟨by simpa using I.sz,hcl',F',hGP',hlen'.trans I.len,hfree' hno,q1.symm,fun t ht=>?_,fun j H B haj=>?_,fun f hf=>I.az2 f (by rw[has];exact mU _ hf),(uAH.1 hch).2,fun p hp=>?_,q3,q4⟩ hfu'
    ·rw[q2 t fun j H B hfj hpj hdj=>?_]
     ·by_cases hd:o.dst=some t
      ·show get (putO o.dst v (scrub D s).s) t=get (putO o.dst v (scrub D cs).s) t;rw[hd];show get (put t v _) t=get (put t v _) t;rw[jf,jf,if_pos rfl,if_pos rfl]
      ·show get (putO o.dst v (scrub D s).s) t=get (putO o.dst v (scrub D cs).s) t;rw[jA hd,jA hd];refine zfn D (I.sl t fun j H B hdj hfj=>?_);have:=ht j H B hdj hfj;rwa [U j (fun e=>by subst e;rw[ho']at B;cases B;exact hd hdj)]at this
     ·have h1:=ht j H B hdj hfj;have O:j≠i:=fun e=>by subst e;rw[ho']at B;cases B;rw[ha]at hfj;cases hfj
      rw[U j O]at h1;have h2:=hanc j i (hpj i rfl) h1;rw[hSi]at h2;cases h2
    ·by_cases O:j=i
     ·subst O;rw[ho']at B;cases B;rw[hseti];exact⟨fun h=>absurd h hil2,fun h=>by cases h⟩
     ·rw[U j O,<-I.an j H B haj,has,mS];exact⟨fun h=>.inr h,fun h=>h.resolve_left fun e=>O (by cases e;rfl)⟩
    ·cases hp;exact hseti
   rcases heffs s I.hp hops with⟨hw,hop⟩|⟨hw,rfl,rfl,rfl⟩
   ·rw[jJ I.fit hS hw,if_pos rfl];refine .inl (Oper.wp_mono ?_ (JE hΓ hgl I.fit I.gp (show c.m<=nidOf ops base i by unfold nidOf;omega) (I.free i o ho' hSi) (by rw[I.len];exact yZ ho') hop));rintro a' w' ⟨v',st',R',G',V,h1,rfl,h2,h3,h4,h5,h6⟩;simp only[Option.some.injEq,Prod.mk.injEq]at h1;obtain⟨rfl,rfl⟩:=h1;exact next R' G' _ w' (h2.put hdst h3) (hst R R' h6 I.gp) h4 h5
   ·rw[jJ I.fit hS hw];simp only[mR,if_false];exact next R G _ w (I.fit.put (v:=.tup []) (V:=undef) hdst ⟨[],rfl,rfl⟩) I.gp (fun _ _ h=>h) rfl
theorem zhe{ops:List Oper}:∀{l:List (Oper×Nat)},zjx (beforeOf true ops) l=true->l.Pairwise fun x y=>Anc ops y.2 x.2
 |[],_=>List.Pairwise.nil
 |a::l,h=>by simp only[zjx,kY]at h;refine uAH.2 ⟨fun b j=>?_,zhe h.2⟩;exact zU (zA.1 (mK.1 h.1 b j))
theorem zmI{n:Nat}{ops:List Oper}(h:Vz n ops (beforeOf true ops)=true):StatOk n 0 ops/\
  (∀i o t j J,ops[i]? =some o->t∈o.looksAt ops.toArray->ops[j]? =some J->J.dst=some t->Anc ops i j\/isAnch J.op=true)/\(ops.zipIdx.filter fun x=>isAnch x.1.op).Pairwise fun x y=>Anc ops y.2 x.2:=by
 unfold Vz at h;rw[kY]at h;obtain⟨h,hc⟩:=h;have I:∀(i:Nat)(o:Oper)(d:Nat),ops[i]? =some o->o.dst=some d->Nat.blt d n=true/\wrFrom ops 0 d=some i:=by
  intro i o d H hd;have B:=jO h H;simp only[kY]at B;obtain⟨⟨B,Z⟩,h3⟩:=B;rw[hd]at Z;simp only[kY]at Z;obtain⟨h4,U⟩:=Z;refine⟨h4,?_⟩;split at U
  ·rename_i j O;rw[O,kV U]
  ·cases U
 refine⟨⟨fun i o H e he=>?_,I,fun _ _ _ _ _ _ _=>.inr (nL _)⟩,fun i o t j J H ht O hd=>?_,zhe hc⟩
 ·have B:=jO h H;simp only[kY]at B;have:=mK.1 B.1.1 e he;have:e+1<=i:=by simpa[Nat.blt]using this
  omega
 ·have B:=jO h H;simp only[kY]at B;have:=mK.1 B.2 t ht;rw[(I j J t O hd).2]at this;simp only[O,nW,kY]at this;rcases this with this|⟨this,_⟩
  ·exact .inl (zU (zA.1 this))
  ·exact .inr this
theorem znk(hm:E.P.follows .mixedOrders=true)(hΓ:∀C∈E.Γ,SoundC E.P GP C)(hgl:∀R,GP R->GlobOK E.gl R)(hst:Stays GP){ops:List Oper}{T:Type}{r:T}{k:St->Option T}{Q:Exit->Act->World->Prop}{st:St}{R:Ro}{G:List Res}
  {a:Act} {w:World} (F:Fit c E.n R G st a w) (hGP:GP R) (h:j9 E ops st k=some r) (hK:∀st' R' G' a' w',k st'=some r->Fit c E.n R' G' st' a' w'->GP R'->Q .normal a' w') {id:Nat}:
  (Code.region id ops.toArray true).wp E.P Q a w:=by
 unfold j9 at h;simp only[]at h;split at h
 ·rename_i H;obtain⟨hS,B,hch⟩:=zmI H;obtain⟨G0,F0,y,J⟩:=F.wide (rsvAll ops);have Z:c.m<=st.h.length:=F.since.many;obtain⟨cs,q1,q2,q3,q4⟩:=zlg rfl h;have hf:∀j,(Array.replicate ops.toArray.size false).getD j false=false:=by
   intro j;by_cases O:j<ops.length
   ·simp[O]
   ·simp[O]
  refine wp_region_any hm ?_;refine zBN hΓ hgl hst hS Z rfl B hK ops.toArray.size _ none cs _ ⟨st.s,wide st.h (rsvAll ops)⟩ R G0 a _
   ⟨by simp,fun i U=>?_,F0.keep (Keeps.drawn w _),hGP,J,fun i o U _ x hx1 hx2=>y x (by unfold nidOf at hx1;omega),q1.symm,fun t ht=>?_,fun i o U ha=>?_,fun f I=>?_,hch,fun p hp=>(by cases hp),q3,q4⟩ ?_
  ·rw[hf]at U;cases U
  ·rw[q2 t fun j o hj hfj _ hd=>?_];have:=ht j o hj hd hfj;rw[hf]at this;cases this
  ·rw[hf,nB];exact⟨fun _=>rfl,fun _=>⟨uAa.2 U,ha⟩⟩
  ·rw[nB]at I;exact⟨uAa.1 I.1,I.2⟩
  ·have h1:=List.length_filter_le (fun j=>!(Array.replicate ops.toArray.size false).getD j false) (List.range ops.length);have h2:(List.range ops.length).length=ops.toArray.size:=by simp
   exact uAG h1 (Nat.le_of_eq h2)
 ·cases h
end
end Go.Am
