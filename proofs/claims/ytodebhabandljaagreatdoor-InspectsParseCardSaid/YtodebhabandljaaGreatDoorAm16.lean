/-
  A part of the proof of the laws.
-/
import Derived.Test.YtodebhabandljaaGreatDoorAm15
namespace Go.Am
open Go Go.RowKit Go.Vc
section
variable {E : Env} {all : List Oper} {base : Nat}
def Eqv(a b:St):Prop:=(∀t,get a.s t=get b.s t)/\a.h=b.h
theorem Eqv.refl(a:St):Eqv a a:=⟨fun _=>rfl,rfl⟩
theorem Eqv.symm{a b:St}(h:Eqv a b):Eqv b a:=⟨fun t=>(h.1 t).symm,h.2.symm⟩
theorem Eqv.trans{a b c:St}(h:Eqv a b)(k:Eqv b c):Eqv a c:=⟨fun t=>(h.1 t).trans (k.1 t),h.2.trans k.2⟩
theorem za6{Q:List FuncId}{ev I:Operand->AV}{nid:Nat}{op:Op}(j:∀x∈op.operands,I x=ev x):fpO Q I nid op=fpO Q ev nid op:=by
 cases op with
 |load t x=>simp only[fpO,j x (by simp[Op.operands])]
 |store t x y=>simp only[fpO,j x (by simp[Op.operands])]
 |indexAddr t x i=>simp only[fpO,j x (by simp[Op.operands])]
 |slice t x lo hi mx=>simp only[fpO,j x (by simp[Op.operands])]
 |call c=>
  obtain⟨callee,H,J⟩:=c;have B:H.toList.map I=H.toList.map ev:=uAk fun x U=>j x (by
   simp only[Op.operands,Call.operands];simp;exact .inr (by simpa using U))
  cases callee with
  |value f=>simp only[fpO,j f (by simp[Op.operands,Call.operands]),B]
  |builtin b=>cases b<;>simp only[fpO,B]
  |invoke r m=>rfl
 |convert s d x=>simp only[fpO,j x (by simp[Op.operands])]
 |binOp O t x y Z=>simp only[fpO,j x (by simp[Op.operands]),j y (by simp[Op.operands])]
 |lookup t x i b=>simp only[fpO,j x (by simp[Op.operands])]
 |mapUpdate t m x y=>simp only[fpO,j m (by simp[Op.operands])]
 |insert t m x y=>simp only[fpO,j m (by simp[Op.operands])]
 |_=>rfl
def Loc(E:Env)(nid:Nat)(op:Op)(st:St)(v:AV)(u:List (Nat×Option AO)):Prop:=((fpO E.Q (opnd E.gl st.s) nid op).big=false->∀x∈u,x.1∈(fpO E.Q (opnd E.gl st.s) nid op).w)/\((fpO E.Q (opnd E.gl st.s) nid op).w=[]->((fpO E.Q (opnd E.gl st.s) nid op).big=false\/(fpO E.Q (opnd E.gl st.s) nid op).r≠[])->u=[])/\(∀st':St,(∀x∈op.operands,opnd E.gl st'.s x=opnd E.gl st.s x)->((fpO E.Q (opnd E.gl st.s) nid op).big=true->st'.h=st.h)->((fpO E.Q (opnd E.gl st.s) nid op).big=false->∀i∈(fpO E.Q (opnd E.gl st.s) nid op).r,hget st'.h i=hget st.h i)->Eff E nid op st' v u)/\((fpO E.Q (opnd E.gl st.s) nid op).big=true->(fpO E.Q (opnd E.gl st.s) nid op).r≠[]->∀st':St,(∀x∈op.operands,opnd E.gl st'.s x=opnd E.gl st.s x)->Ext st.h st'.h->∀(T:Type)(k:AV->St->Option T),opK E true nid op st' k=k v st')
theorem XD{nid:Nat}{op:Op}{st:St}{T:Type}{k:AV->St->Option T}{r:T}(h:opK E true nid op st k=some r):∃v u,k v ⟨st.s,jF st.h u⟩=some r/\Loc E nid op st v u:=by obtain⟨v,u,H,Z,U,j⟩:=ziv h;refine⟨v,u,H,Z,U,j,fun I J st' ha B T' k'=>?_⟩;have e1:opK E true nid op st (fun v s=>some (v,s))=some (v,⟨st.s,jF st.h u⟩):=j st (fun _ _=>rfl) (fun _=>rfl) (fun _ _ _=>rfl) _ _;obtain⟨v2,y,O⟩:=zpW e1 I J;simp only[Option.some.injEq,Prod.mk.injEq]at y;rw[<-y.1];exact O st' ha B T' k'
theorem Loc.move{nid:Nat}{op:Op}{st st':St}{v:AV}{u:List (Nat×Option AO)}(h:Loc E nid op st v u)(ho:∀x∈op.operands,opnd E.gl st'.s x=opnd E.gl st.s x)
  (Z:(fpO E.Q (opnd E.gl st.s) nid op).big=true->st'.h=st.h) (hr:(fpO E.Q (opnd E.gl st.s) nid op).big=false->∀i∈(fpO E.Q (opnd E.gl st.s) nid op).r,hget st'.h i=hget st.h i):Loc E nid op st' v u:=by
 have e:=za6 (Q:=E.Q) (nid:=nid) (op:=op) ho;refine⟨by rw[e];exact h.1,by rw[e];exact h.2.1,fun y I U O=>h.2.2.1 y (fun x B=>(I x B).trans (ho x B)) (fun j=>?_) (fun j i J=>?_),fun j H y I he=>?_⟩
 ·rw[e]at U;exact (U j).trans (Z j)
 ·rw[e]at O;exact (O j i J).trans (hr j i J)
 ·rw[e]at j H;exact h.2.2.2 j H y (fun x B=>(I x B).trans (ho x B)) (by rw[<-Z j];exact he)
theorem Loc.ext{nid:Nat}{op:Op}{st st':St}{v:AV}{u:List (Nat×Option AO)}(h:Loc E nid op st v u)(ho:∀x∈op.operands,opnd E.gl st'.s x=opnd E.gl st.s x)
  (I:(fpO E.Q (opnd E.gl st.s) nid op).big=true) (O:(fpO E.Q (opnd E.gl st.s) nid op).r≠[]) (J:Ext st.h st'.h):Loc E nid op st' v []:=by
 have e:=za6 (Q:=E.Q) (nid:=nid) (op:=op) ho;refine⟨fun _ x y=>(by cases y),fun _ _=>rfl,fun j B H _ T k=>?_,fun _ _ j B H=>h.2.2.2 I O j (fun x y=>(B x y).trans (ho x y)) (J.trans H)⟩;have U:=H (by rw[e];exact I);exact h.2.2.2 I O j (fun x y=>(B x y).trans (ho x y)) (by rw[U];exact J) T k
theorem Loc.eff{nid:Nat}{op:Op}{st:St}{v:AV}{u:List (Nat×Option AO)}(h:Loc E nid op st v u):Eff E nid op st v u:=h.2.2.1 st (fun _ _=>rfl) (fun _=>rfl) (fun _ _ _=>rfl)
def StepS(E:Env)(all:List Oper)(base i:Nat)(st st':St):Prop:=∃o v u,all[i]? =some o/\st'=⟨putO o.dst v st.s,jF st.h u⟩/\((zC all o st=some true/\Loc E (nidOf all base i) o.op st v u)\/(zC all o st=some false/\v=.tup []/\u=[]))
theorem jA{d:Option Nat}{v:AV}{s:Slots}{t:Nat}(h:d≠some t):get (putO d v s) t=get s t:=by
 cases d with
 |none=>rfl
 |some d=>show get (put d v s) t=_;rw[jf,if_neg (fun e=>h (by rw[e]))]
theorem zp3{o:Oper}{t:Nat}(h: .tmp t∈o.op.operands):t∈o.looksAt all.toArray:=by unfold Oper.looksAt;rw[mQ];left;rw[uAn];exact⟨.tmp t,by simpa using h,rfl⟩
theorem jV{o:Oper}{s j:Slots}(h:∀t∈o.looksAt all.toArray,get j t=get s t):∀x∈o.op.operands,opnd E.gl j x=opnd E.gl s x:=by
 intro x y;cases x with
 |tmp t=>exact h t (zp3 y)
 |_=>rfl
theorem zy{o:Oper}{st st':St}(h:∀t∈o.looksAt all.toArray,get st'.s t=get st.s t):zC all o st'=zC all o st:=by
 unfold zC;cases hg:o.guard with
 |none=>rfl
 |some y=>
  obtain⟨g,j⟩:=y;cases ht:Y3 all g with
  |none=>simp only[ht]
  |some t=>
   have:t∈o.looksAt all.toArray:=by
    unfold Oper.looksAt;rw[mQ];right;rw[hg];unfold Y3 at ht;simp only[uAv];cases ha:all[g]? with
    |none=>rw[ha]at ht;cases ht
    |some B=>rw[ha]at ht;simp[ht]
   simp only[ht,h t this]
theorem za5{nid:Nat}{o:Oper}{st st':St}(h:∀t∈o.looksAt all.toArray,get st'.s t=get st.s t):fpW E all st' nid o=fpW E all st nid o:=by unfold fpW;rw[zy h,za6 (jV h)]
theorem Ya{nid:Nat}{o:Oper}{st:St}(h:zC all o st=some true):fpW E all st nid o=fpO E.Q (opnd E.gl st.s) nid o.op:=by unfold fpW;rw[h]
theorem StepS.eqv{i:Nat}{st st' j:St}(h:StepS E all base i st st')(e:Eqv st j):∃y,StepS E all base i j y/\Eqv st' y:=by
 obtain⟨o,v,u,J,rfl,O⟩:=h;have I:∀t∈o.looksAt all.toArray,get j.s t=get st.s t:=fun t _=>(e.1 t).symm
 refine⟨⟨putO o.dst v j.s,jF j.h u⟩,⟨o,v,u,J,rfl,?_⟩,fun t=>?_,by rw[e.2]⟩
 ·rcases O with⟨H,B⟩|⟨H,B⟩
  ·exact .inl ⟨(zy I).trans H,B.move (jV I) (fun _=>e.2.symm) (fun _ _ _=>by rw[e.2])⟩
  ·exact .inr ⟨(zy I).trans H,B⟩
 ·show get (putO o.dst v st.s) t=get (putO o.dst v j.s) t;cases o.dst with
  |none=>exact e.1 t
  |some d=>show get (put d v st.s) t=get (put d v j.s) t;rw[jf,jf,e.1]
theorem XV{a b:List Nat}(h:zyK a b=true):∀i∈a,i∉b:=by intro i j y;have:=mK.1 h i j;rw[zA.2 y]at this;cases this
theorem ja{α:Type}{l:List α}(h:zW l=true):l=[]:=by cases l with|nil=>rfl|cons _ _=>cases h
theorem Jp{α:Type}{l:List α}(h:(!zW l)=true):l≠[]:=by rintro rfl;cases h
theorem zBF{i j:Nat}{oi O:Oper}{st s1 s2:St}(hoi:all[i]? =some oi)(hoj:all[j]? =some O)(h1:StepS E all base j st s1)(h2:StepS E all base i s1 s2)
  (ha:∀d,O.dst=some d->d∉oi.looksAt all.toArray) (hb:∀d,oi.dst=some d->d∉O.looksAt all.toArray) (hc:∀d,oi.dst=some d->O.dst≠some d)
  (hp:QC (fpW E all st (nidOf all base j) O) (fpW E all s1 (nidOf all base i) oi)=true)
  (hfree:(fpW E all s1 (nidOf all base i) oi).big=false->(fpW E all s1 (nidOf all base i) oi).r=[]->∀x∈(fpW E all s1 (nidOf all base i) oi).w,hget st.h x=none):
  ∃s1' s2',StepS E all base i st s1'/\StepS E all base j s1' s2'/\Eqv s2 s2':=by
 obtain⟨o,vj,uj,e1,rfl,h1⟩:=h1;rw[hoj]at e1;cases e1;obtain⟨o,vi,ui,e2,rfl,h2⟩:=h2;rw[hoi]at e2;cases e2;have hsi:∀t∈oi.looksAt all.toArray,get st.s t=get (putO O.dst vj st.s) t:=fun t ht=>(jA (fun e=>ha t e ht)).symm
 have hsj:∀t∈O.looksAt all.toArray,get (putO oi.dst vi st.s) t=get st.s t:=fun t ht=>jA (fun e=>hb t e ht)
 have hfj':zC all O st=some true->fpO E.Q (opnd E.gl st.s) (nidOf all base j) O.op=fpW E all st (nidOf all base j) O:=fun h=>(Ya h).symm
 have hfi':zC all oi ⟨putO O.dst vj st.s,jF st.h uj⟩=some true->fpO E.Q (opnd E.gl (putO O.dst vj st.s)) (nidOf all base i) oi.op=fpW E all ⟨putO O.dst vj st.s,jF st.h uj⟩ (nidOf all base i) oi:=fun h=>(Ya h).symm
 generalize fpW E all st (nidOf all base j) O=fj at hp hfj';generalize fpW E all ⟨putO O.dst vj st.s,jF st.h uj⟩ (nidOf all base i) oi=fi at hp hfi' hfree;have J:(fj.big=false->∀x∈uj,x.1∈fj.w)/\(fj.w=[]->(fj.big=false\/fj.r≠[])->uj=[]):=by
  rcases h1 with⟨hw,h⟩|⟨_,_,rfl⟩
  ·unfold Loc at h;rw[hfj' hw]at h;exact⟨h.1,h.2.1⟩
  ·exact⟨by simp,fun _ _=>rfl⟩
 have I:(fi.big=false->∀x∈ui,x.1∈fi.w)/\(fi.w=[]->(fi.big=false\/fi.r≠[])->ui=[]):=by
  rcases h2 with⟨hw,h⟩|⟨_,_,rfl⟩
  ·unfold Loc at h;simp only[hfi' hw]at h;exact⟨h.1,h.2.1⟩
  ·exact⟨by simp,fun _ _=>rfl⟩
 by_cases hspec:fj.big=true/\fj.r≠[]/\fj.w=[]/\fi.big=false/\fi.r=[]
 ·obtain⟨q1,q2,q3,q4,q5⟩:=hspec;have huj:=J.2 q3 (.inr q2);subst huj;have hext:Ext st.h (jF st.h ui):=fun x o H=>by rw[Xm (fun y Z e=>by have:=hfree q4 q5 y.1 (I.1 q4 y Z);rw[e,H]at this;cases this)];exact H
  refine⟨⟨putO oi.dst vi st.s,jF st.h ui⟩,⟨putO O.dst vj (putO oi.dst vi st.s),jF (jF st.h ui) []⟩,⟨oi,vi,ui,hoi,rfl,?_⟩,⟨O,vj,[],hoj,rfl,?_⟩,fun t=>?_,rfl⟩
  ·rcases h2 with⟨U,g2⟩|⟨U,g2⟩
   ·refine .inl ⟨(zy hsi).trans U,g2.move (jV hsi) (fun B=>rfl) (fun B x H=>rfl)⟩
   ·exact .inr ⟨(zy hsi).trans U,g2⟩
  ·rcases h1 with⟨U,g2⟩|⟨U,g2⟩
   ·exact .inl ⟨(zy hsj).trans U,g2.ext (jV hsj) (by rw[hfj' U];exact q1) (by rw[hfj' U];exact q2) hext⟩
   ·exact .inr ⟨(zy hsj).trans U,g2⟩
  ·show get (putO oi.dst vi (putO O.dst vj st.s)) t=get (putO O.dst vj (putO oi.dst vi st.s)) t;cases hdi:oi.dst with
   |none=>rfl
   |some di=>
    cases hdj:O.dst with
    |none=>rfl
    |some dj=>
     have hne:di≠dj:=fun e=>hc di hdi (by rw[hdj,e])
     show get (put di vi (put dj vj st.s)) t=get (put dj vj (put di vi st.s)) t;simp only[jf];by_cases h3:di=t
     ·subst h3;rw[if_pos rfl,if_neg (fun e=>hne e.symm),if_pos rfl]
     ·rw[if_neg h3];simp only[h3,if_false]
 have facts:(fi.big=true->uj=[])/\(fi.big=false->∀x∈fi.r,∀y∈uj,y.1≠x)/\(fj.big=true->ui=[])/\(fj.big=false->∀x∈fj.r,∀y∈ui,y.1≠x)/\(∀x∈uj,∀y∈ui,x.1≠y.1):=by
  unfold QC at hp;split at hp
  ·rename_i b1 b2;simp only[kY]at hp;obtain⟨⟨p1,p2⟩,p3⟩:=hp;refine⟨(fun h=>by rw[b2]at h;cases h),fun _ x H y Z e=>XV p1 y.1 (J.1 b1 y Z) (e▸H),(fun h=>by rw[b1]at h;cases h),
    fun _ x H y Z e=>XV p3 y.1 (I.1 b2 y Z) (e▸H),fun x H y Z e=>XV p2 x.1 (J.1 b1 x H) (e▸I.1 b2 y Z)⟩
  ·rename_i b1 b2;have hp:(zW fi.w=true/\(zW fi.r=true\/(!zW fj.r)=true/\zW fj.w=true)):=by
    simp only[kY,nW]at hp;rcases hp with hp|⟨p1,p2,p3⟩
    ·exact hp
    ·exact (hspec ⟨b1,Jp p2,ja p3,b2,ja p1⟩).elim
   have p2:=ja hp.1;have hui:=I.2 p2 (.inl b2);refine⟨(fun h=>by rw[b2]at h;cases h),fun _ x H y Z=>?_,fun _=>hui,(fun h=>by rw[b1]at h;cases h),fun x _ y Z=>by rw[hui]at Z;cases Z⟩;rcases hp.2 with h|⟨h,h'⟩
   ·rw[ja h]at H;cases H
   ·rw[J.2 (ja h') (.inr (Jp h))]at Z;cases Z
  ·rename_i b1 b2;simp only[kY,nW]at hp;have p2:=ja hp.1;have huj:=J.2 p2 (.inl b1);refine⟨fun _=>huj,(fun h=>by rw[b2]at h;cases h),(fun h=>by rw[b1]at h;cases h),fun _ x H y Z=>?_,fun x H=>by rw[huj]at H;cases H⟩;rcases hp.2 with h|⟨h,h'⟩
   ·rw[ja h]at H;cases H
   ·rw[I.2 (ja h') (.inr (Jp h))]at Z;cases Z
  ·rename_i b1 b2;simp only[kY]at hp;obtain⟨⟨p1,p2⟩,p3,p4⟩:=hp;have huj:=J.2 (ja p2) (.inr (Jp p1));have hui:=I.2 (ja p4) (.inr (Jp p3));exact⟨fun _=>huj,(fun h=>by rw[b2]at h;cases h),fun _=>hui,(fun h=>by rw[b1]at h;cases h),fun x H=>by rw[huj]at H;cases H⟩
 obtain⟨f1,f2,f3,f4,f5⟩:=facts;refine⟨⟨putO oi.dst vi st.s,jF st.h ui⟩,⟨putO O.dst vj (putO oi.dst vi st.s),jF (jF st.h ui) uj⟩,⟨oi,vi,ui,hoi,rfl,?_⟩,⟨O,vj,uj,hoj,rfl,?_⟩,fun t=>?_,?_⟩
 ·rcases h2 with⟨U,g2⟩|⟨U,g2⟩
  ·refine .inl ⟨(zy hsi).trans U,g2.move (jV hsi) (fun B=>?_) (fun B x H=>?_)⟩
   ·simp only[hfi' U]at B;rw[f1 B];rfl
   ·simp only[hfi' U]at B H;exact (Xm (fun y Z=>f2 B x H y Z)).symm
  ·exact .inr ⟨(zy hsi).trans U,g2⟩
 ·rcases h1 with⟨U,g2⟩|⟨U,g2⟩
  ·refine .inl ⟨(zy hsj).trans U,g2.move (jV hsj) (fun B=>?_) (fun B x H=>?_)⟩
   ·rw[hfj' U]at B;rw[f3 B];rfl
   ·rw[hfj' U]at B H;exact Xm (fun y Z=>f4 B x H y Z)
  ·exact .inr ⟨(zy hsj).trans U,g2⟩
 ·show get (putO oi.dst vi (putO O.dst vj st.s)) t=get (putO O.dst vj (putO oi.dst vi st.s)) t;cases hdi:oi.dst with
  |none=>rfl
  |some di=>
   cases hdj:O.dst with
   |none=>rfl
   |some dj=>
    have hne:di≠dj:=fun e=>hc di hdi (by rw[hdj,e])
    show get (put di vi (put dj vj st.s)) t=get (put dj vj (put di vi st.s)) t;simp only[jf];by_cases h3:di=t
    ·subst h3;rw[if_pos rfl,if_neg (fun e=>hne e.symm),if_pos rfl]
    ·rw[if_neg h3];simp only[h3,if_false]
 ·exact zgn f5
def RunS(E:Env)(all:List Oper)(base:Nat):List Nat->St->St->Prop
 |[],st,st'=>Eqv st st'
 |i::r,st,st'=>∃j,StepS E all base i st j/\RunS E all base r j st'
theorem RunS.eqv:∀{l:List Nat}{st st' j:St},RunS E all base l st st'->Eqv st j->RunS E all base l j st'
 |[],_,_,_,h,e=>e.symm.trans h
 |i::r,st,st',j,⟨I,h1,h2⟩,e=>by obtain⟨B,H,y⟩:=h1.eqv e;exact⟨B,H,h2.eqv y⟩
theorem RunS.slots:∀{l:List Nat}{st st':St},RunS E all base l st st'->∀t,(∀k∈l,∀o,all[k]? =some o->o.dst≠some t)->get st'.s t=get st.s t
 |[],_,_,h,t,_=>(h.1 t).symm
 |i::r,st,st',⟨y,⟨o,v,u,h1,h2,_⟩,h3⟩,t,hk=>by rw[RunS.slots h3 t (fun k j=>hk k (mU _ j)),h2];exact jA (hk i mV o h1)
theorem zyE{Q:List FuncId}{ev:Operand->AV}{nid:Nat}{o:Oper}(U:(fpO Q ev nid o.op).big=false)(B:(fpO Q ev nid o.op).r=[]):∀x∈(fpO Q ev nid o.op).w,nid<=x/\x<nid+rsv o:=by
 intro x j;obtain⟨dst,op,J,pos,H,I⟩:=o;simp only at U B j;cases op with
 |call c=>
  obtain⟨callee,O,ats⟩:=c;cases callee with
  |value f=>
   simp only[fpO]at U B j;split at j
   ·split at j
    ·simp only[newIds,nZ,List.mem_range]at j;obtain⟨y,Z,rfl⟩:=j;exact⟨by omega,by show nid+y<nid+jT;omega⟩
    ·cases j
    ·cases j
   ·split at j
    ·simp only[newIds,nZ,List.mem_range]at j;obtain⟨y,Z,rfl⟩:=j;exact⟨by omega,by show nid+y<nid+jT;omega⟩
    ·cases j
   ·cases j
  |builtin b=>
   cases b with
   |copy=>simp only[fpO]at B j;rw[B]at j;cases j
   |_=>simp only[fpO]at j;cases j
  |_=>simp only[fpO]at j;cases j
 |store t a y=>simp only[fpO]at B j;rw[B]at j;cases j
 |mapUpdate t m a y=>simp only[fpO]at B j;rw[B]at j;cases j
 |insert t m a y=>simp only[fpO]at B j;rw[B]at j;cases j
 |alloc t=>simp only[fpO,mD]at j;subst j;exact⟨mA _,uAx _⟩
 |box t y=>simp only[fpO,mD]at j;subst j;exact⟨mA _,uAx _⟩
 |buildSlice t n p=>simp only[fpO,mD]at j;subst j;exact⟨mA _,uAx _⟩
 |makeSlice t a b=>simp only[fpO,mD]at j;subst j;exact⟨mA _,uAx _⟩
 |makeMap t a=>simp only[fpO,mD]at j;subst j;exact⟨mA _,uAx _⟩
 |convert a b y=>simp only[fpO,mD]at j;subst j;exact⟨mA _,uAx _⟩
 |binOp bop t a y yt=>simp only[fpO]at j;split at j<;>cases j
 |_=>simp only[fpO]at j;cases j
theorem zd8{nid:Nat}{o:Oper}{st:St}(B:(fpW E all st nid o).big=false)(y:(fpW E all st nid o).r=[]):∀x∈(fpW E all st nid o).w,nid<=x/\x<nid+rsv o:=by
 unfold fpW at B y⊢;split
 ·intro x H;cases H
 ·rename_i j;split at B
  ·rename_i e;exact (j e).elim
  ·split at y
   ·rename_i e;exact (j e).elim
   ·exact zyE B y
theorem zqb{j:Nat}{oj:Oper}{st s1:St}{O:Fp}(B:all[j]? =some oj)(H:StepS E all base j st s1)(hp:QC (fpW E all st (nidOf all base j) oj) O=true)
  (hb:O.big=false) {x:Nat} (J:x∈O.w) (hn:hget st.h x=none):hget s1.h x=none:=by
 obtain⟨o,vj,Z,U,rfl,H⟩:=H;rw[B]at U;cases U;rcases H with⟨hw,h⟩|⟨_,_,rfl⟩
 ·unfold Loc at h;rw[<-Ya hw]at h;have hk:∀y∈Z,y.1≠x:=by
   unfold QC at hp;rw[hb]at hp;split at hp
   ·rename_i b1 _;simp only[kY]at hp;intro y I e;exact XV hp.1.2 y.1 (h.1 b1 y I) (e▸J)
   ·simp only[kY,nW]at hp;rcases hp with⟨p1,_⟩|⟨_,p2,p3⟩
    ·rw[ja p1]at J;cases J
    ·rw[h.2.1 (ja p3) (.inr (Jp p2))];intro y I;cases I
   ·rename_i hh;cases hh
   ·rename_i hh;cases hh
  show hget (jF st.h Z) x=none;rw[Xm hk];exact hn
 ·exact hn
theorem zAk{i M:Nat}{oi:Oper}{l2:List Nat}{y:St}(O:all[i]? =some oi)
  (hA:∀(j k:Nat)(B ok:Oper)(d:Nat),all[j]? =some B->all[k]? =some ok->j<=k->k<M->ok.dst=some d->d∉B.looksAt all.toArray)
  (hE:∀(j k:Nat)(B ok:Oper)(d:Nat),all[j]? =some B->all[k]? =some ok->j≠k->B.dst=some d->ok.dst≠some d):
  ∀(J:List Nat)(st:St),(∀k∈J++i::l2,k<M)->(J++i::l2).Pairwise (· < ·)->(∀k∈J++i::l2,∀ok d,all[k]? =some ok->ok.dst=some d->d∉oi.looksAt all.toArray)->
   (∀j∈J,∀B,all[j]? =some B->QC (fpW E all y (nidOf all base j) B) (fpW E all y (nidOf all base i) oi)=true)->
   ((fpW E all y (nidOf all base i) oi).big=false->(fpW E all y (nidOf all base i) oi).r=[]->∀x∈(fpW E all y (nidOf all base i) oi).w,hget st.h x=none)->
   RunS E all base (J++i::l2) st y->∃s',StepS E all base i st s'/\RunS E all base (J++l2) s' y
 |[],st,_,_,_,_,_,⟨s1,h1,h2⟩=>⟨s1,h1,h2⟩
 |j::J,st,hM,hsort,hB,hD,hN,⟨s1,h1,h2⟩=>by
  have hs:=uAH.1 hsort;have hij:j<i:=hs.1 i (by simp);have Z:RunS E all base (j::(J++i::l2)) st y:=⟨s1,h1,h2⟩
  have hN1:(fpW E all y (nidOf all base i) oi).big=false->(fpW E all y (nidOf all base i) oi).r=[]->∀x∈(fpW E all y (nidOf all base i) oi).w,hget s1.h x=none:=fun hb hr x hx=>by
   obtain⟨B,hoj⟩:∃B,all[j]? =some B:=let⟨B,_,_,e,_⟩:=h1;⟨B,e⟩;have ej:fpW E all st (nidOf all base j) B=fpW E all y (nidOf all base j) B:=by
    refine za5 (fun t ht=>(Z.slots t fun k hk ok H I=>?_).symm);have hjk:j<=k:=by
     rcases mS.1 hk with rfl|hk
     ·exact mA _
     ·exact Nat.le_of_lt (hs.1 k hk)
    exact hA j k B ok t hoj H hjk (hM k hk) I ht
   exact zqb hoj h1 (by rw[ej];exact hD j (by simp) B hoj) hb hx (hN hb hr x hx)
  obtain⟨s2,g1,g2⟩:=zAk O hA hE J s1 (fun k hk=>hM k (mU _ hk)) hs.2 (fun k hk=>hB k (mU _ hk)) (fun k hk=>hD k (mU _ hk)) hN1 h2;obtain⟨B,vj,uj,U,e2,e3⟩:=h1;have hfin:RunS E all base (j::(J++i::l2)) st y:=⟨s1,⟨B,vj,uj,U,e2,e3⟩,h2⟩
  have ej:fpW E all st (nidOf all base j) B=fpW E all y (nidOf all base j) B:=by
   refine za5 (fun t ht=>(hfin.slots t fun k hk ok H I=>?_).symm);have hjk:j<=k:=by
    rcases mS.1 hk with rfl|hk
    ·exact mA _
    ·exact Nat.le_of_lt (hs.1 k hk)
   exact hA j k B ok t U H hjk (hM k hk) I ht
  have ei:fpW E all s1 (nidOf all base i) oi=fpW E all y (nidOf all base i) oi:=by refine za5 (fun t ht=>(h2.slots t fun k hk ok H I=>?_).symm);exact hB k (mU _ hk) ok t H I ht
  obtain⟨s1',s2',k1,k2,k3⟩:=zBF O U ⟨B,vj,uj,U,e2,e3⟩ g1 (fun d I=>hB j (by simp) B d U I) (fun d I=>hA j i B oi d U O (Nat.le_of_lt hij) (hM i (by simp)) I)
   (fun d I=>hE i j oi B d O U (by omega) I) (by rw[ej,ei];exact hD j (by simp) B U) (by rw[ei];exact hN)
  exact⟨s1',k1,s2',k2,g2.eqv k3⟩
end
end Go.Am
