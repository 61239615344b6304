/-
  A part of the proof of the laws.
-/
import Derived.Test.YtannhfbidakffaaGreatDoorAm15
namespace Go.Am
open Go Go.RowKit Go.Vc
section
variable {E : Env} {all : List Oper} {base : Nat}
def Eqv(a b:St):Prop:=(∀t,get a.s t=get b.s t)/\a.h=b.h
theorem Eqv.refl(a:St):Eqv a a:=⟨fun _=>rfl,rfl⟩
theorem Eqv.symm{a b:St}(h:Eqv a b):Eqv b a:=⟨fun t=>(h.1 t).symm,h.2.symm⟩
theorem Eqv.trans{a b c:St}(h:Eqv a b)(k:Eqv b c):Eqv a c:=⟨fun t=>(h.1 t).trans (k.1 t),h.2.trans k.2⟩
theorem zdY{Q:List FuncId}{ev I:Operand->AV}{nid:Nat}{op:Op}(j:∀x∈op.operands,I x=ev x):fpO Q I nid op=fpO Q ev nid op:=by
 cases op with
 |load t x=>simp only[fpO,j x (by simp[Op.operands])]
 |store t x y=>simp only[fpO,j x (by simp[Op.operands])]
 |indexAddr t x i=>simp only[fpO,j x (by simp[Op.operands])]
 |slice t x Y hi Z=>simp only[fpO,j x (by simp[Op.operands])]
 |call c=>
  obtain⟨callee,H,O⟩:=c;have B:H.toList.map I=H.toList.map ev:=uAk fun x J=>j x (by
   simp only[Op.operands,Call.operands];simp;exact .inr (by simpa using J))
  cases callee with
  |value f=>simp only[fpO,j f (by simp[Op.operands,Call.operands]),B]
  |builtin b=>cases b<;>simp only[fpO,B]
  |invoke r m=>rfl
 |convert s d x=>simp only[fpO,j x (by simp[Op.operands])]
 |binOp S t x y U=>simp only[fpO,j x (by simp[Op.operands]),j y (by simp[Op.operands])]
 |lookup t x i b=>simp only[fpO,j x (by simp[Op.operands])]
 |mapUpdate t m x y=>simp only[fpO,j m (by simp[Op.operands])]
 |insert t m x y=>simp only[fpO,j m (by simp[Op.operands])]
 |_=>rfl
def Loc(E:Env)(nid:Nat)(op:Op)(st:St)(v:AV)(u:List (Nat×Option AO)):Prop:=((fpO E.Q (opnd E.gl st.s) nid op).big=false->∀x∈u,x.1∈(fpO E.Q (opnd E.gl st.s) nid op).w)/\((fpO E.Q (opnd E.gl st.s) nid op).w=[]->((fpO E.Q (opnd E.gl st.s) nid op).big=false\/(fpO E.Q (opnd E.gl st.s) nid op).r≠[])->u=[])/\(∀st':St,(∀x∈op.operands,opnd E.gl st'.s x=opnd E.gl st.s x)->((fpO E.Q (opnd E.gl st.s) nid op).big=true->st'.h=st.h)->((fpO E.Q (opnd E.gl st.s) nid op).big=false->∀i∈(fpO E.Q (opnd E.gl st.s) nid op).r,hget st'.h i=hget st.h i)->Eff E nid op st' v u)/\((fpO E.Q (opnd E.gl st.s) nid op).big=true->(fpO E.Q (opnd E.gl st.s) nid op).r≠[]->∀st':St,(∀x∈op.operands,opnd E.gl st'.s x=opnd E.gl st.s x)->Ext st.h st'.h->∀(T:Type)(k:AV->St->Option T),opK E true nid op st' k=k v st')
theorem WO{nid:Nat}{op:Op}{st:St}{T:Type}{k:AV->St->Option T}{r:T}(h:opK E true nid op st k=some r):∃v u,k v ⟨st.s,jR st.h u⟩=some r/\Loc E nid op st v u:=by
 obtain⟨v,u,B,O,J,j⟩:=zlT h;refine⟨v,u,B,O,J,j,fun S H st' ha he T' Z=>?_⟩;have I:opK E true nid op st (fun v s=>some (v,s))=some (v,⟨st.s,jR st.h u⟩):=j st (fun _ _=>rfl) (fun _=>rfl) (fun _ _ _=>rfl) _ _;obtain⟨v2,U,Y⟩:=zuX I S H
 grind
theorem Loc.move{nid:Nat}{op:Op}{st st':St}{v:AV}{u:List (Nat×Option AO)}(h:Loc E nid op st v u)(ho:∀x∈op.operands,opnd E.gl st'.s x=opnd E.gl st.s x)
  (S:(fpO E.Q (opnd E.gl st.s) nid op).big=true->st'.h=st.h) (U:(fpO E.Q (opnd E.gl st.s) nid op).big=false->∀i∈(fpO E.Q (opnd E.gl st.s) nid op).r,hget st'.h i=hget st.h i):Loc E nid op st' v u:=by
 have e:=zdY (Q:=E.Q) (nid:=nid) (op:=op) ho;refine⟨by rw[e];exact h.1,by rw[e];exact h.2.1,fun B J Z Y=>h.2.2.1 B (fun x H=>(J x H).trans (ho x H)) (fun j=>?_) (fun j i hi=>?_),fun j I B J O=>?_⟩
 ·grind
 ·grind
 ·rw[e]at j I;exact h.2.2.2 j I B (fun x H=>(J x H).trans (ho x H)) (by rw[<-S j];exact O)
theorem Loc.ext{nid:Nat}{op:Op}{st st':St}{v:AV}{u:List (Nat×Option AO)}(h:Loc E nid op st v u)(ho:∀x∈op.operands,opnd E.gl st'.s x=opnd E.gl st.s x)
  (J:(fpO E.Q (opnd E.gl st.s) nid op).big=true) (O:(fpO E.Q (opnd E.gl st.s) nid op).r≠[]) (S:Ext st.h st'.h):Loc E nid op st' v []:=by
 have e:=zdY (Q:=E.Q) (nid:=nid) (op:=op) ho;refine⟨fun _ x B=>(by cases B),fun _ _=>rfl,fun j H I _ T k=>?_,fun _ _ j H I=>h.2.2.2 J O j (fun x B=>(H x B).trans (ho x B)) (S.trans I)⟩;have U:=I (by rw[e];exact J);exact h.2.2.2 J O j (fun x B=>(H x B).trans (ho x B)) (by rw[U];exact S) T k
theorem Loc.eff{nid:Nat}{op:Op}{st:St}{v:AV}{u:List (Nat×Option AO)}(h:Loc E nid op st v u):Eff E nid op st v u:=h.2.2.1 st (fun _ _=>rfl) (fun _=>rfl) (fun _ _ _=>rfl)
def StepS(E:Env)(all:List Oper)(base i:Nat)(st st':St):Prop:=∃o v u,all[i]? =some o/\st'=⟨putO o.dst v st.s,jR st.h u⟩/\((zx all o st=some true/\Loc E (nidOf all base i) o.op st v u)\/(zx all o st=some false/\v=.tup []/\u=[]))
theorem jQ{d:Option Nat}{v:AV}{s:Slots}{t:Nat}(h:d≠some t):get (putO d v s) t=get s t:=by
 cases d with
 |none=>rfl
 |some d=>show get (put d v s) t=_;rw[js,if_neg (fun e=>h (by rw[e]))]
theorem zu5{o:Oper}{t:Nat}(h: .tmp t∈o.op.operands):t∈o.looksAt all.toArray:=by unfold Oper.looksAt;rw[mU];left;rw[uAs];exact⟨.tmp t,by simpa using h,rfl⟩
theorem yc{o:Oper}{s j:Slots}(h:∀t∈o.looksAt all.toArray,get j t=get s t):∀x∈o.op.operands,opnd E.gl j x=opnd E.gl s x:=by
 intro x B;cases x with
 |tmp t=>exact h t (zu5 B)
 |_=>rfl
theorem zu{o:Oper}{st st':St}(h:∀t∈o.looksAt all.toArray,get st'.s t=get st.s t):zx all o st'=zx all o st:=by
 unfold zx;cases hg:o.guard with
 |none=>rfl
 |some B=>
  obtain⟨g,j⟩:=B;cases ht:KP all g with
  |none=>simp only[ht]
  |some t=>
   have:t∈o.looksAt all.toArray:=by
    unfold Oper.looksAt;rw[mU];right;rw[hg];unfold KP at ht
    grind
   simp only[ht,h t this]
theorem zdX{nid:Nat}{o:Oper}{st st':St}(h:∀t∈o.looksAt all.toArray,get st'.s t=get st.s t):fpW E all st' nid o=fpW E all st nid o:=by unfold fpW;rw[zu h,zdY (yc h)]
theorem Xb{nid:Nat}{o:Oper}{st:St}(h:zx all o st=some true):fpW E all st nid o=fpO E.Q (opnd E.gl st.s) nid o.op:=by unfold fpW;rw[h]
theorem StepS.eqv{i:Nat}{st st' j:St}(h:StepS E all base i st st')(e:Eqv st j):∃B,StepS E all base i j B/\Eqv st' B:=by
 obtain⟨o,v,u,O,rfl,S⟩:=h;have I:∀t∈o.looksAt all.toArray,get j.s t=get st.s t:=fun t _=>(e.1 t).symm
 refine⟨⟨putO o.dst v j.s,jR j.h u⟩,⟨o,v,u,O,rfl,?_⟩,fun t=>?_,by rw[e.2]⟩
 ·rcases S with⟨H,J⟩|⟨H,J⟩
  ·exact .inl ⟨(zu I).trans H,J.move (yc I) (fun _=>e.2.symm) (fun _ _ _=>by rw[e.2])⟩
  ·exact .inr ⟨(zu I).trans H,J⟩
 ·show get (putO o.dst v st.s) t=get (putO o.dst v j.s) t;cases o.dst with
  |none=>exact e.1 t
  |some d=>show get (put d v st.s) t=get (put d v j.s) t;rw[js,js,e.1]
theorem zaf{a b:List Nat}(h:zB7 a b=true):∀i∈a,i∉b:=by intro i hi j;have:=mT.1 h i hi;rw[zG.2 j]at this;cases this
theorem jh{α:Type}{l:List α}(h:zS l=true):l=[]:=by cases l with|nil=>rfl|cons _ _=>cases h
theorem YZ{α:Type}{l:List α}(h:(!zS l)=true):l≠[]:=by rintro rfl;cases h
theorem zE4{i j:Nat}{J O:Oper}{st s1 s2:St}(hoi:all[i]? =some J)(hoj:all[j]? =some O)(h1:StepS E all base j st s1)(h2:StepS E all base i s1 s2)
  (ha:∀d,O.dst=some d->d∉J.looksAt all.toArray) (hb:∀d,J.dst=some d->d∉O.looksAt all.toArray) (hc:∀d,J.dst=some d->O.dst≠some d)
  (hp:Vo (fpW E all st (nidOf all base j) O) (fpW E all s1 (nidOf all base i) J)=true)
  (hfree:(fpW E all s1 (nidOf all base i) J).big=false->(fpW E all s1 (nidOf all base i) J).r=[]->∀x∈(fpW E all s1 (nidOf all base i) J).w,hget st.h x=none):
  ∃s1' s2',StepS E all base i st s1'/\StepS E all base j s1' s2'/\Eqv s2 s2':=by
 obtain⟨o,vj,uj,e1,rfl,h1⟩:=h1;rw[hoj]at e1;cases e1;obtain⟨o,vi,ui,e2,rfl,h2⟩:=h2;rw[hoi]at e2;cases e2;have hsi:∀t∈J.looksAt all.toArray,get st.s t=get (putO O.dst vj st.s) t:=fun t ht=>(jQ (fun e=>ha t e ht)).symm
 have hsj:∀t∈O.looksAt all.toArray,get (putO J.dst vi st.s) t=get st.s t:=fun t ht=>jQ (fun e=>hb t e ht)
 have Z:zx all O st=some true->fpO E.Q (opnd E.gl st.s) (nidOf all base j) O.op=fpW E all st (nidOf all base j) O:=fun h=>(Xb h).symm
 have hfi':zx all J ⟨putO O.dst vj st.s,jR st.h uj⟩=some true->fpO E.Q (opnd E.gl (putO O.dst vj st.s)) (nidOf all base i) J.op=fpW E all ⟨putO O.dst vj st.s,jR st.h uj⟩ (nidOf all base i) J:=fun h=>(Xb h).symm
 generalize fpW E all st (nidOf all base j) O=fj at hp Z;generalize fpW E all ⟨putO O.dst vj st.s,jR st.h uj⟩ (nidOf all base i) J=fi at hp hfi' hfree;have H:(fj.big=false->∀x∈uj,x.1∈fj.w)/\(fj.w=[]->(fj.big=false\/fj.r≠[])->uj=[]):=by
  rcases h1 with⟨hw,h⟩|⟨_,_,rfl⟩
  ·unfold Loc at h;rw[Z hw]at h;exact⟨h.1,h.2.1⟩
  grind
 have I:(fi.big=false->∀x∈ui,x.1∈fi.w)/\(fi.w=[]->(fi.big=false\/fi.r≠[])->ui=[]):=by
  rcases h2 with⟨hw,h⟩|⟨_,_,rfl⟩
  ·unfold Loc at h
   grind
  grind
 by_cases hspec:fj.big=true/\fj.r≠[]/\fj.w=[]/\fi.big=false/\fi.r=[]
 ·obtain⟨q1,q2,q3,q4,q5⟩:=hspec;have huj:=H.2 q3 (.inr q2);subst huj;have hext:Ext st.h (jR st.h ui):=fun x o S=>by rw[Wy (fun y Y e=>by have:=hfree q4 q5 y.1 (I.1 q4 y Y);rw[e,S]at this;cases this)];exact S
  refine⟨⟨putO J.dst vi st.s,jR st.h ui⟩,⟨putO O.dst vj (putO J.dst vi st.s),jR (jR st.h ui) []⟩,⟨J,vi,ui,hoi,rfl,?_⟩,⟨O,vj,[],hoj,rfl,?_⟩,fun t=>?_,rfl⟩
  ·rcases h2 with⟨U,g2⟩|⟨U,g2⟩
   ·refine .inl ⟨(zu hsi).trans U,g2.move (yc hsi) (fun B=>rfl) (fun B x S=>rfl)⟩
   ·exact .inr ⟨(zu hsi).trans U,g2⟩
  ·rcases h1 with⟨U,g2⟩|⟨U,g2⟩
   ·exact .inl ⟨(zu hsj).trans U,g2.ext (yc hsj) (by rw[Z U];exact q1) (by rw[Z U];exact q2) hext⟩
   ·exact .inr ⟨(zu hsj).trans U,g2⟩
  ·show get (putO J.dst vi (putO O.dst vj st.s)) t=get (putO O.dst vj (putO J.dst vi st.s)) t;cases hdi:J.dst with
   |none=>rfl
   |some di=>
    cases hdj:O.dst with
    |none=>rfl
    |some dj=>
     have hne:di≠dj:=fun e=>hc di hdi (by rw[hdj,e])
     show get (put di vi (put dj vj st.s)) t=get (put dj vj (put di vi st.s)) t;simp only[js];by_cases h3:di=t
     ·grind
     ·grind
 have facts:(fi.big=true->uj=[])/\(fi.big=false->∀x∈fi.r,∀y∈uj,y.1≠x)/\(fj.big=true->ui=[])/\(fj.big=false->∀x∈fj.r,∀y∈ui,y.1≠x)/\(∀x∈uj,∀y∈ui,x.1≠y.1):=by
  unfold Vo at hp;split at hp
  ·rename_i b1 b2;simp only[mF]at hp;obtain⟨⟨p1,p2⟩,p3⟩:=hp;refine⟨(fun h=>by rw[b2]at h;cases h),fun _ x S y Y e=>zaf p1 y.1 (H.1 b1 y Y) (e▸S),(fun h=>by rw[b1]at h;cases h),
    fun _ x S y Y e=>zaf p3 y.1 (I.1 b2 y Y) (e▸S),fun x S y Y e=>zaf p2 x.1 (H.1 b1 x S) (e▸I.1 b2 y Y)⟩
  ·rename_i b1 b2;have hp:(zS fi.w=true/\(zS fi.r=true\/(!zS fj.r)=true/\zS fj.w=true)):=by
    simp only[mF,nO]at hp;rcases hp with hp|⟨p1,p2,p3⟩
    ·exact hp
    ·exact (hspec ⟨b1,YZ p2,jh p3,b2,jh p1⟩).elim
   have p2:=jh hp.1;have hui:=I.2 p2 (.inl b2);refine⟨(fun h=>by rw[b2]at h;cases h),fun _ x S y Y=>?_,fun _=>hui,(fun h=>by rw[b1]at h;cases h),fun x _ y Y=>by rw[hui]at Y;cases Y⟩;rcases hp.2 with h|⟨h,h'⟩
   ·rw[jh h]at S;cases S
   ·rw[H.2 (jh h') (.inr (YZ h))]at Y;cases Y
  ·rename_i b1 b2;simp only[mF,nO]at hp;have p2:=jh hp.1;have huj:=H.2 p2 (.inl b1);refine⟨fun _=>huj,(fun h=>by rw[b2]at h;cases h),(fun h=>by rw[b1]at h;cases h),fun _ x S y Y=>?_,fun x S=>by rw[huj]at S;cases S⟩;rcases hp.2 with h|⟨h,h'⟩
   ·rw[jh h]at S;cases S
   ·rw[I.2 (jh h') (.inr (YZ h))]at Y;cases Y
  ·rename_i b1 b2;simp only[mF]at hp;obtain⟨⟨p1,p2⟩,p3,p4⟩:=hp;have huj:=H.2 (jh p2) (.inr (YZ p1));have hui:=I.2 (jh p4) (.inr (YZ p3))
   grind
 obtain⟨f1,f2,f3,f4,f5⟩:=facts;refine⟨⟨putO J.dst vi st.s,jR st.h ui⟩,⟨putO O.dst vj (putO J.dst vi st.s),jR (jR st.h ui) uj⟩,⟨J,vi,ui,hoi,rfl,?_⟩,⟨O,vj,uj,hoj,rfl,?_⟩,fun t=>?_,?_⟩
 ·rcases h2 with⟨U,g2⟩|⟨U,g2⟩
  ·refine .inl ⟨(zu hsi).trans U,g2.move (yc hsi) (fun B=>?_) (fun B x S=>?_)⟩
   ·simp only[hfi' U]at B;rw[f1 B];rfl
   ·simp only[hfi' U]at B S;exact (Wy (fun y Y=>f2 B x S y Y)).symm
  ·exact .inr ⟨(zu hsi).trans U,g2⟩
 ·rcases h1 with⟨U,g2⟩|⟨U,g2⟩
  ·refine .inl ⟨(zu hsj).trans U,g2.move (yc hsj) (fun B=>?_) (fun B x S=>?_)⟩
   ·rw[Z U]at B;rw[f3 B];rfl
   ·rw[Z U]at B S;exact Wy (fun y Y=>f4 B x S y Y)
  ·exact .inr ⟨(zu hsj).trans U,g2⟩
 ·show get (putO J.dst vi (putO O.dst vj st.s)) t=get (putO O.dst vj (putO J.dst vi st.s)) t;cases hdi:J.dst with
  |none=>rfl
  |some di=>
   cases hdj:O.dst with
   |none=>rfl
   |some dj=>
    have hne:di≠dj:=fun e=>hc di hdi (by rw[hdj,e])
    show get (put di vi (put dj vj st.s)) t=get (put dj vj (put di vi st.s)) t;simp only[js];by_cases h3:di=t
    ·grind
    ·grind
 ·exact zjK f5
def RunS(E:Env)(all:List Oper)(base:Nat):List Nat->St->St->Prop
 |[],st,st'=>Eqv st st'
 |i::r,st,st'=>∃s1,StepS E all base i st s1/\RunS E all base r s1 st'
theorem RunS.eqv:∀{l:List Nat}{st st' j:St},RunS E all base l st st'->Eqv st j->RunS E all base l j st'
 |[],_,_,_,h,e=>e.symm.trans h
 |i::r,st,st',j,⟨s1,h1,h2⟩,e=>by obtain⟨H,B,I⟩:=h1.eqv e;exact⟨H,B,h2.eqv I⟩
theorem RunS.slots:∀{l:List Nat}{st st':St},RunS E all base l st st'->∀t,(∀k∈l,∀o,all[k]? =some o->o.dst≠some t)->get st'.s t=get st.s t
 |[],_,_,h,t,_=>(h.1 t).symm
 |i::r,st,st',⟨s1,⟨o,v,u,h1,h2,_⟩,h3⟩,t,hk=>by rw[RunS.slots h3 t (fun k j=>hk k (nE _ j)),h2];exact jQ (hk i nR o h1)
theorem zBX{Q:List FuncId}{ev:Operand->AV}{nid:Nat}{o:Oper}(J:(fpO Q ev nid o.op).big=false)(B:(fpO Q ev nid o.op).r=[]):∀x∈(fpO Q ev nid o.op).w,nid<=x/\x<nid+rsv o:=by
 intro x j;obtain⟨dst,op,S,pos,H,I⟩:=o;simp only at J B j;cases op with
 |call c=>
  obtain⟨callee,O,Y⟩:=c;cases callee with
  |value f=>
   simp only[fpO]at J B j;split at j
   ·split at j
    ·simp only[newIds,uAb,List.mem_range]at j;obtain⟨y,U,rfl⟩:=j;exact⟨oM,by show nid+y<nid+j8;omega⟩
    ·cases j
    ·cases j
   ·split at j
    ·simp only[newIds,uAb,List.mem_range]at j;obtain⟨y,U,rfl⟩:=j;exact⟨oM,by show nid+y<nid+j8;omega⟩
    ·cases j
   ·cases j
  |builtin b=>
   cases b with
   |copy=>simp only[fpO]at B j;rw[B]at j;cases j
   |_=>simp only[fpO]at j;cases j
  |_=>simp only[fpO]at j;cases j
 |store t a y=>simp only[fpO]at B j;rw[B]at j;cases j
 |mapUpdate t m a y=>simp only[fpO]at B j;rw[B]at j;cases j
 |insert t m a y=>simp only[fpO]at B j;rw[B]at j;cases j
 |alloc t=>simp only[fpO,mL]at j;subst j;exact⟨mH _,uAt _⟩
 |box t y=>simp only[fpO,mL]at j;subst j;exact⟨mH _,uAt _⟩
 |buildSlice t n p=>simp only[fpO,mL]at j;subst j;exact⟨mH _,uAt _⟩
 |makeSlice t a b=>simp only[fpO,mL]at j;subst j;exact⟨mH _,uAt _⟩
 |makeMap t a=>simp only[fpO,mL]at j;subst j;exact⟨mH _,uAt _⟩
 |convert a b y=>simp only[fpO,mL]at j;subst j;exact⟨mH _,uAt _⟩
 |binOp Z t a y yt=>simp only[fpO]at j;split at j<;>cases j
 |_=>simp only[fpO]at j;cases j
theorem zgK{nid:Nat}{o:Oper}{st:St}(B:(fpW E all st nid o).big=false)(j:(fpW E all st nid o).r=[]):∀x∈(fpW E all st nid o).w,nid<=x/\x<nid+rsv o:=by
 unfold fpW at B j⊢;split
 ·grind
 ·rename_i H;split at B
  ·grind
  ·split at j
   ·grind
   ·exact zBX B j
theorem zvd{j:Nat}{Z:Oper}{st s1:St}{I:Fp}(H:all[j]? =some Z)(B:StepS E all base j st s1)(hp:Vo (fpW E all st (nidOf all base j) Z) I=true)
  (hb:I.big=false) {x:Nat} (J:x∈I.w) (U:hget st.h x=none):hget s1.h x=none:=by
 obtain⟨o,vj,Y,S,rfl,B⟩:=B;rw[H]at S;cases S;rcases B with⟨hw,h⟩|⟨_,_,rfl⟩
 ·unfold Loc at h;rw[<-Xb hw]at h;have hk:∀y∈Y,y.1≠x:=by
   unfold Vo at hp;rw[hb]at hp;split at hp
   ·rename_i b1 _;simp only[mF]at hp;intro y O e;exact zaf hp.1.2 y.1 (h.1 b1 y O) (e▸J)
   ·simp only[mF,nO]at hp;rcases hp with⟨p1,_⟩|⟨_,p2,p3⟩
    ·rw[jh p1]at J;cases J
    ·rw[h.2.1 (jh p3) (.inr (YZ p2))];intro y O;cases O
   ·grind
   grind
  show hget (jR st.h Y) x=none;rw[Wy hk];exact U
 ·exact U
theorem zDD{i M:Nat}{I:Oper}{U:List Nat}{B:St}(S:all[i]? =some I)
  (hA:∀(j k:Nat)(H ok:Oper)(d:Nat),all[j]? =some H->all[k]? =some ok->j<=k->k<M->ok.dst=some d->d∉H.looksAt all.toArray)
  (hE:∀(j k:Nat)(H ok:Oper)(d:Nat),all[j]? =some H->all[k]? =some ok->j≠k->H.dst=some d->ok.dst≠some d):
  ∀(J:List Nat)(st:St),(∀k∈J++i::U,k<M)->(J++i::U).Pairwise (· < ·)->(∀k∈J++i::U,∀ok d,all[k]? =some ok->ok.dst=some d->d∉I.looksAt all.toArray)->
   (∀j∈J,∀H,all[j]? =some H->Vo (fpW E all B (nidOf all base j) H) (fpW E all B (nidOf all base i) I)=true)->
   ((fpW E all B (nidOf all base i) I).big=false->(fpW E all B (nidOf all base i) I).r=[]->∀x∈(fpW E all B (nidOf all base i) I).w,hget st.h x=none)->
   RunS E all base (J++i::U) st B->∃s',StepS E all base i st s'/\RunS E all base (J++U) s' B
 |[],st,_,_,_,_,_,⟨s1,h1,h2⟩=>⟨s1,h1,h2⟩
 |j::J,st,hM,hsort,hB,hD,hN,⟨s1,h1,h2⟩=>by
  have hs:=uAL.1 hsort;have hij:j<i:=hs.1 i sI;have hfin0:RunS E all base (j::(J++i::U)) st B:=⟨s1,h1,h2⟩
  have hN1:(fpW E all B (nidOf all base i) I).big=false->(fpW E all B (nidOf all base i) I).r=[]->∀x∈(fpW E all B (nidOf all base i) I).w,hget s1.h x=none:=fun hb hr x hx=>by
   obtain⟨H,hoj⟩:∃H,all[j]? =some H:=let⟨H,_,_,e,_⟩:=h1;⟨H,e⟩;have ej:fpW E all st (nidOf all base j) H=fpW E all B (nidOf all base j) H:=by
    refine zdX (fun t ht=>(hfin0.slots t fun k hk ok Y O=>?_).symm);have hjk:j<=k:=by
     rcases nB.1 hk with rfl|hk
     ·grind
     ·exact Nat.le_of_lt (hs.1 k hk)
    grind
   exact zvd hoj h1 (by rw[ej];exact hD j sI H hoj) hb hx (hN hb hr x hx)
  obtain⟨s2,g1,g2⟩:=zDD S hA hE J s1 (fun k hk=>hM k (nE _ hk)) hs.2 (fun k hk=>hB k (nE _ hk)) (fun k hk=>hD k (nE _ hk)) hN1 h2;obtain⟨H,vj,uj,Z,e2,e3⟩:=h1;have hfin:RunS E all base (j::(J++i::U)) st B:=⟨s1,⟨H,vj,uj,Z,e2,e3⟩,h2⟩
  have ej:fpW E all st (nidOf all base j) H=fpW E all B (nidOf all base j) H:=by
   refine zdX (fun t ht=>(hfin.slots t fun k hk ok Y O=>?_).symm);have hjk:j<=k:=by
    rcases nB.1 hk with rfl|hk
    ·grind
    ·exact Nat.le_of_lt (hs.1 k hk)
   grind
  have ei:fpW E all s1 (nidOf all base i) I=fpW E all B (nidOf all base i) I:=by refine zdX (fun t ht=>(h2.slots t fun k hk ok Y O=>?_).symm);exact hB k (nE _ hk) ok t Y O ht
  obtain⟨s1',s2',k1,k2,k3⟩:=zE4 S Z ⟨H,vj,uj,Z,e2,e3⟩ g1 (fun d O=>hB j sI H d Z O) (fun d O=>hA j i H I d Z S (Nat.le_of_lt hij) (hM i sI) O)
   (fun d O=>hE i j I H d S Z oM O) (by rw[ej,ei];exact hD j sI H Z) (by rw[ei];exact hN)
  exact⟨s1',k1,s2',k2,g2.eqv k3⟩
end
end Go.Am
