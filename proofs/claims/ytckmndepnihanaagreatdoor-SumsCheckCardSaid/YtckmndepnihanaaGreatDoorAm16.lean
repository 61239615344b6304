/-
  A part of the proof of the laws.
-/
import Derived.Test.YtckmndepnihanaaGreatDoorAm15
namespace Go.Am
open Go Go.RowKit Go.Vc
section
variable {E : Env} {all : List Oper} {base : Nat}
def Eqv(a b:St):Prop:=(∀t,get a.s t=get b.s t)∧a.h=b.h
theorem Eqv.refl(a:St):Eqv a a:=⟨fun _=>rfl,rfl⟩
theorem Eqv.symm{a b:St}(h:Eqv a b):Eqv b a:=⟨fun t=>(h.1 t).symm,h.2.symm⟩
theorem Eqv.trans{a b c:St}(h:Eqv a b)(k:Eqv b c):Eqv a c:=⟨fun t=>(h.1 t).trans (k.1 t),h.2.trans k.2⟩
theorem WL{Q:List FuncId}{ev ev':Operand→AV}{nid:Nat}{op:Op}(he:∀x∈op.operands,ev' x=ev x):fpO Q ev' nid op=fpO Q ev nid op:=by
 cases op with
 |load t x=>simp only[fpO,he x (by simp[Op.operands])]
 |store t x y=>simp only[fpO,he x (by simp[Op.operands])]
 |indexAddr t x i=>simp only[fpO,he x (by simp[Op.operands])]
 |slice t x lo hi mx=>simp only[fpO,he x (by simp[Op.operands])]
 |call c=>
  obtain⟨callee,args,ats⟩:=c;have hargs:args.toList.map ev'=args.toList.map ev:=List.map_congr_left fun x hx=>he x (by
   simp only[Op.operands,Call.operands];simp;exact .inr (by simpa using hx))
  cases callee with
  |value f=>simp only[fpO,he f (by simp[Op.operands,Call.operands]),hargs]
  |builtin b=>cases b<;>simp only[fpO,hargs]
  |invoke r m=>rfl
 |convert s d x=>simp only[fpO,he x (by simp[Op.operands])]
 |binOp bop t x y yt=>simp only[fpO,he x (by simp[Op.operands]),he y (by simp[Op.operands])]
 |lookup t x i b=>simp only[fpO,he x (by simp[Op.operands])]
 |mapUpdate t m x y=>simp only[fpO,he m (by simp[Op.operands])]
 |insert t m x y=>simp only[fpO,he m (by simp[Op.operands])]
 |_=>rfl
def Loc(E:Env)(nid:Nat)(op:Op)(st:St)(v:AV)(u:List (Nat×Option AO)):Prop:=((fpO E.Q (opnd E.gl st.s) nid op).big=false→∀x∈u,x.1∈(fpO E.Q (opnd E.gl st.s) nid op).w)∧((fpO E.Q (opnd E.gl st.s) nid op).w=[]→((fpO E.Q (opnd E.gl st.s) nid op).big=false∨(fpO E.Q (opnd E.gl st.s) nid op).r≠[])→u=[])∧(∀st':St,(∀x∈op.operands,opnd E.gl st'.s x=opnd E.gl st.s x)→((fpO E.Q (opnd E.gl st.s) nid op).big=true→st'.h=st.h)→((fpO E.Q (opnd E.gl st.s) nid op).big=false→∀i∈(fpO E.Q (opnd E.gl st.s) nid op).r,hget st'.h i=hget st.h i)→Eff E nid op st' v u)∧((fpO E.Q (opnd E.gl st.s) nid op).big=true→(fpO E.Q (opnd E.gl st.s) nid op).r≠[]→∀st':St,(∀x∈op.operands,opnd E.gl st'.s x=opnd E.gl st.s x)→Ext st.h st'.h→∀(T:Type)(k:AV→St→Option T),opK E true nid op st' k=k v st')
theorem QP{nid:Nat}{op:Op}{st:St}{T:Type}{k:AV→St→Option T}{r:T}(h:opK E true nid op st k=some r):∃v u,k v ⟨st.s,jA st.h u⟩=some r∧Loc E nid op st v u:=by obtain⟨v,u,h1,h2,h3,h4⟩:=zvk h;refine⟨v,u,h1,h2,h3,h4,fun hb hr st' ha he T' k'=>?_⟩;have e1:opK E true nid op st (fun v s=>some (v,s))=some (v,⟨st.s,jA st.h u⟩):=h4 st (fun _ _=>rfl) (fun _=>rfl) (fun _ _ _=>rfl) _ _;obtain⟨v2,q1,q2⟩:=znf e1 hb hr;simp only[Option.some.injEq,Prod.mk.injEq]at q1;rw[←q1.1];exact q2 st' ha he T' k'
theorem Loc.move{nid:Nat}{op:Op}{st st':St}{v:AV}{u:List (Nat×Option AO)}(h:Loc E nid op st v u)(ho:∀x∈op.operands,opnd E.gl st'.s x=opnd E.gl st.s x)
  (hb:(fpO E.Q (opnd E.gl st.s) nid op).big=true→st'.h=st.h) (hr:(fpO E.Q (opnd E.gl st.s) nid op).big=false→∀i∈(fpO E.Q (opnd E.gl st.s) nid op).r,hget st'.h i=hget st.h i):Loc E nid op st' v u:=by
 have e:=WL (Q:=E.Q) (nid:=nid) (op:=op) ho;refine⟨by rw[e];exact h.1,by rw[e];exact h.2.1,fun st2 h1 h2 h3=>h.2.2.1 st2 (fun x hx=>(h1 x hx).trans (ho x hx)) (fun hbig=>?_) (fun hbig i hi=>?_),fun hbig hrr st2 h1 he=>?_⟩
 ·rw[e]at h2;exact (h2 hbig).trans (hb hbig)
 ·rw[e]at h3;exact (h3 hbig i hi).trans (hr hbig i hi)
 ·rw[e]at hbig hrr;exact h.2.2.2 hbig hrr st2 (fun x hx=>(h1 x hx).trans (ho x hx)) (by rw[←hb hbig];exact he)
theorem Loc.ext{nid:Nat}{op:Op}{st st':St}{v:AV}{u:List (Nat×Option AO)}(h:Loc E nid op st v u)(ho:∀x∈op.operands,opnd E.gl st'.s x=opnd E.gl st.s x)
  (hb:(fpO E.Q (opnd E.gl st.s) nid op).big=true) (hr:(fpO E.Q (opnd E.gl st.s) nid op).r≠[]) (he:Ext st.h st'.h):Loc E nid op st' v []:=by
 have e:=WL (Q:=E.Q) (nid:=nid) (op:=op) ho;refine⟨fun _ x hx=>(by cases hx),fun _ _=>rfl,fun st2 h1 h2 _ T k=>?_,fun _ _ st2 h1 h2=>h.2.2.2 hb hr st2 (fun x hx=>(h1 x hx).trans (ho x hx)) (he.trans h2)⟩;have h3:=h2 (by rw[e];exact hb);exact h.2.2.2 hb hr st2 (fun x hx=>(h1 x hx).trans (ho x hx)) (by rw[h3];exact he) T k
theorem Loc.eff{nid:Nat}{op:Op}{st:St}{v:AV}{u:List (Nat×Option AO)}(h:Loc E nid op st v u):Eff E nid op st v u:=h.2.2.1 st (fun _ _=>rfl) (fun _=>rfl) (fun _ _ _=>rfl)
def StepS(E:Env)(all:List Oper)(base i:Nat)(st st':St):Prop:=∃o v u,all[i]? =some o∧st'=⟨putO o.dst v st.s,jA st.h u⟩∧((zu all o st=some true∧Loc E (nidOf all base i) o.op st v u)∨(zu all o st=some false∧v=.tup []∧u=[]))
theorem jv{d:Option Nat}{v:AV}{s:Slots}{t:Nat}(h:d≠some t):get (putO d v s) t=get s t:=by
 cases d with
 |none=>rfl
 |some d=>show get (put d v s) t=_;rw[jb,if_neg (fun e=>h (by rw[e]))]
theorem znj{o:Oper}{t:Nat}(h: .tmp t∈o.op.operands):t∈o.looksAt all.toArray:=by unfold Oper.looksAt;rw[List.mem_append];left;rw[List.mem_filterMap];exact⟨.tmp t,by simpa using h,rfl⟩
theorem jO{o:Oper}{s s':Slots}(h:∀t∈o.looksAt all.toArray,get s' t=get s t):∀x∈o.op.operands,opnd E.gl s' x=opnd E.gl s x:=by
 intro x hx;cases x with
 |tmp t=>exact h t (znj hx)
 |_=>rfl
theorem zt{o:Oper}{st st':St}(h:∀t∈o.looksAt all.toArray,get st'.s t=get st.s t):zu all o st'=zu all o st:=by
 unfold zu;cases hg:o.guard with
 |none=>rfl
 |some gw=>
  obtain⟨g,want⟩:=gw;cases ht:Yt all g with
  |none=>simp only[ht]
  |some t=>
   have:t∈o.looksAt all.toArray:=by
    unfold Oper.looksAt;rw[List.mem_append];right;rw[hg];unfold Yt at ht;simp only[List.getElem?_toArray];cases ha:all[g]? with
    |none=>rw[ha]at ht;cases ht
    |some og=>rw[ha]at ht;simp[ht]
   simp only[ht,h t this]
theorem WK{nid:Nat}{o:Oper}{st st':St}(h:∀t∈o.looksAt all.toArray,get st'.s t=get st.s t):fpW E all st' nid o=fpW E all st nid o:=by unfold fpW;rw[zt h,WL (jO h)]
theorem Ju{nid:Nat}{o:Oper}{st:St}(h:zu all o st=some true):fpW E all st nid o=fpO E.Q (opnd E.gl st.s) nid o.op:=by unfold fpW;rw[h]
theorem StepS.eqv{i:Nat}{st st' st2:St}(h:StepS E all base i st st')(e:Eqv st st2):∃st2',StepS E all base i st2 st2'∧Eqv st' st2':=by
 obtain⟨o,v,u,h1,rfl,h2⟩:=h;have hs:∀t∈o.looksAt all.toArray,get st2.s t=get st.s t:=fun t _=>(e.1 t).symm
 refine⟨⟨putO o.dst v st2.s,jA st2.h u⟩,⟨o,v,u,h1,rfl,?_⟩,fun t=>?_,by rw[e.2]⟩
 ·rcases h2 with⟨h3,h4⟩|⟨h3,h4⟩
  ·exact .inl ⟨(zt hs).trans h3,h4.move (jO hs) (fun _=>e.2.symm) (fun _ _ _=>by rw[e.2])⟩
  ·exact .inr ⟨(zt hs).trans h3,h4⟩
 ·show get (putO o.dst v st.s) t=get (putO o.dst v st2.s) t;cases o.dst with
  |none=>exact e.1 t
  |some d=>show get (put d v st.s) t=get (put d v st2.s) t;rw[jb,jb,e.1]
theorem Q4{a b:List Nat}(h:zvH a b=true):∀i∈a,i∉b:=by intro i hi hb;have:=List.all_eq_true.1 h i hi;rw[zy.2 hb]at this;cases this
theorem zX{α:Type}{l:List α}(h:zR l=true):l=[]:=by cases l with|nil=>rfl|cons _ _=>cases h
theorem ZT{α:Type}{l:List α}(h:(!zR l)=true):l≠[]:=by rintro rfl;cases h
theorem zx5{i j:Nat}{oi oj:Oper}{st s1 s2:St}(hoi:all[i]? =some oi)(hoj:all[j]? =some oj)(h1:StepS E all base j st s1)(h2:StepS E all base i s1 s2)
  (ha:∀d,oj.dst=some d→d∉oi.looksAt all.toArray) (hb:∀d,oi.dst=some d→d∉oj.looksAt all.toArray) (hc:∀d,oi.dst=some d→oj.dst≠some d)
  (hp:YW (fpW E all st (nidOf all base j) oj) (fpW E all s1 (nidOf all base i) oi)=true)
  (hfree:(fpW E all s1 (nidOf all base i) oi).big=false→(fpW E all s1 (nidOf all base i) oi).r=[]→∀x∈(fpW E all s1 (nidOf all base i) oi).w,hget st.h x=none):
  ∃s1' s2',StepS E all base i st s1'∧StepS E all base j s1' s2'∧Eqv s2 s2':=by
 obtain⟨o,vj,uj,e1,rfl,h1⟩:=h1;rw[hoj]at e1;cases e1;obtain⟨o,vi,ui,e2,rfl,h2⟩:=h2;rw[hoi]at e2;cases e2;have hsi:∀t∈oi.looksAt all.toArray,get st.s t=get (putO oj.dst vj st.s) t:=fun t ht=>(jv (fun e=>ha t e ht)).symm
 have hsj:∀t∈oj.looksAt all.toArray,get (putO oi.dst vi st.s) t=get st.s t:=fun t ht=>jv (fun e=>hb t e ht)
 have hfj':zu all oj st=some true→fpO E.Q (opnd E.gl st.s) (nidOf all base j) oj.op=fpW E all st (nidOf all base j) oj:=fun h=>(Ju h).symm
 have hfi':zu all oi ⟨putO oj.dst vj st.s,jA st.h uj⟩=some true→fpO E.Q (opnd E.gl (putO oj.dst vj st.s)) (nidOf all base i) oi.op=fpW E all ⟨putO oj.dst vj st.s,jA st.h uj⟩ (nidOf all base i) oi:=fun h=>(Ju h).symm
 generalize fpW E all st (nidOf all base j) oj=fj at hp hfj';generalize fpW E all ⟨putO oj.dst vj st.s,jA st.h uj⟩ (nidOf all base i) oi=fi at hp hfi' hfree;have turnJ:(fj.big=false→∀x∈uj,x.1∈fj.w)∧(fj.w=[]→(fj.big=false∨fj.r≠[])→uj=[]):=by
  rcases h1 with⟨hw,h⟩|⟨_,_,rfl⟩
  ·unfold Loc at h;rw[hfj' hw]at h;exact⟨h.1,h.2.1⟩
  ·exact⟨by simp,fun _ _=>rfl⟩
 have turnI:(fi.big=false→∀x∈ui,x.1∈fi.w)∧(fi.w=[]→(fi.big=false∨fi.r≠[])→ui=[]):=by
  rcases h2 with⟨hw,h⟩|⟨_,_,rfl⟩
  ·unfold Loc at h;simp only[hfi' hw]at h;exact⟨h.1,h.2.1⟩
  ·exact⟨by simp,fun _ _=>rfl⟩
 by_cases hspec:fj.big=true∧fj.r≠[]∧fj.w=[]∧fi.big=false∧fi.r=[]
 ·obtain⟨q1,q2,q3,q4,q5⟩:=hspec;have huj:=turnJ.2 q3 (.inr q2);subst huj;have hext:Ext st.h (jA st.h ui):=fun x o hx=>by rw[QA (fun y hy e=>by have:=hfree q4 q5 y.1 (turnI.1 q4 y hy);rw[e,hx]at this;cases this)];exact hx
  refine⟨⟨putO oi.dst vi st.s,jA st.h ui⟩,⟨putO oj.dst vj (putO oi.dst vi st.s),jA (jA st.h ui) []⟩,⟨oi,vi,ui,hoi,rfl,?_⟩,⟨oj,vj,[],hoj,rfl,?_⟩,fun t=>?_,rfl⟩
  ·rcases h2 with⟨g1,g2⟩|⟨g1,g2⟩
   ·refine .inl ⟨(zt hsi).trans g1,g2.move (jO hsi) (fun hbig=>rfl) (fun hbig x hx=>rfl)⟩
   ·exact .inr ⟨(zt hsi).trans g1,g2⟩
  ·rcases h1 with⟨g1,g2⟩|⟨g1,g2⟩
   ·exact .inl ⟨(zt hsj).trans g1,g2.ext (jO hsj) (by rw[hfj' g1];exact q1) (by rw[hfj' g1];exact q2) hext⟩
   ·exact .inr ⟨(zt hsj).trans g1,g2⟩
  ·show get (putO oi.dst vi (putO oj.dst vj st.s)) t=get (putO oj.dst vj (putO oi.dst vi st.s)) t;cases hdi:oi.dst with
   |none=>rfl
   |some di=>
    cases hdj:oj.dst with
    |none=>rfl
    |some dj=>
     have hne:di≠dj:=fun e=>hc di hdi (by rw[hdj,e])
     show get (put di vi (put dj vj st.s)) t=get (put dj vj (put di vi st.s)) t;simp only[jb];by_cases h3:di=t
     ·subst h3;rw[if_pos rfl,if_neg (fun e=>hne e.symm),if_pos rfl]
     ·rw[if_neg h3];simp only[h3,if_false]
 have facts:(fi.big=true→uj=[])∧(fi.big=false→∀x∈fi.r,∀y∈uj,y.1≠x)∧(fj.big=true→ui=[])∧(fj.big=false→∀x∈fj.r,∀y∈ui,y.1≠x)∧(∀x∈uj,∀y∈ui,x.1≠y.1):=by
  unfold YW at hp;split at hp
  ·rename_i b1 b2;simp only[Bool.and_eq_true]at hp;obtain⟨⟨p1,p2⟩,p3⟩:=hp;refine⟨(fun h=>by rw[b2]at h;cases h),fun _ x hx y hy e=>Q4 p1 y.1 (turnJ.1 b1 y hy) (e▸hx),(fun h=>by rw[b1]at h;cases h),
    fun _ x hx y hy e=>Q4 p3 y.1 (turnI.1 b2 y hy) (e▸hx),fun x hx y hy e=>Q4 p2 x.1 (turnJ.1 b1 x hx) (e▸turnI.1 b2 y hy)⟩
  ·rename_i b1 b2;have hp:(zR fi.w=true∧(zR fi.r=true∨(!zR fj.r)=true∧zR fj.w=true)):=by
    simp only[Bool.and_eq_true,Bool.or_eq_true]at hp;rcases hp with hp|⟨p1,p2,p3⟩
    ·exact hp
    ·exact (hspec ⟨b1,ZT p2,zX p3,b2,zX p1⟩).elim
   have p2:=zX hp.1;have hui:=turnI.2 p2 (.inl b2);refine⟨(fun h=>by rw[b2]at h;cases h),fun _ x hx y hy=>?_,fun _=>hui,(fun h=>by rw[b1]at h;cases h),fun x _ y hy=>by rw[hui]at hy;cases hy⟩;rcases hp.2 with h|⟨h,h'⟩
   ·rw[zX h]at hx;cases hx
   ·rw[turnJ.2 (zX h') (.inr (ZT h))]at hy;cases hy
  ·rename_i b1 b2;simp only[Bool.and_eq_true,Bool.or_eq_true]at hp;have p2:=zX hp.1;have huj:=turnJ.2 p2 (.inl b1);refine⟨fun _=>huj,(fun h=>by rw[b2]at h;cases h),(fun h=>by rw[b1]at h;cases h),fun _ x hx y hy=>?_,fun x hx=>by rw[huj]at hx;cases hx⟩;rcases hp.2 with h|⟨h,h'⟩
   ·rw[zX h]at hx;cases hx
   ·rw[turnI.2 (zX h') (.inr (ZT h))]at hy;cases hy
  ·rename_i b1 b2;simp only[Bool.and_eq_true]at hp;obtain⟨⟨p1,p2⟩,p3,p4⟩:=hp;have huj:=turnJ.2 (zX p2) (.inr (ZT p1));have hui:=turnI.2 (zX p4) (.inr (ZT p3));exact⟨fun _=>huj,(fun h=>by rw[b2]at h;cases h),fun _=>hui,(fun h=>by rw[b1]at h;cases h),fun x hx=>by rw[huj]at hx;cases hx⟩
 obtain⟨f1,f2,f3,f4,f5⟩:=facts;refine⟨⟨putO oi.dst vi st.s,jA st.h ui⟩,⟨putO oj.dst vj (putO oi.dst vi st.s),jA (jA st.h ui) uj⟩,⟨oi,vi,ui,hoi,rfl,?_⟩,⟨oj,vj,uj,hoj,rfl,?_⟩,fun t=>?_,?_⟩
 ·rcases h2 with⟨g1,g2⟩|⟨g1,g2⟩
  ·refine .inl ⟨(zt hsi).trans g1,g2.move (jO hsi) (fun hbig=>?_) (fun hbig x hx=>?_)⟩
   ·simp only[hfi' g1]at hbig;rw[f1 hbig];rfl
   ·simp only[hfi' g1]at hbig hx;exact (QA (fun y hy=>f2 hbig x hx y hy)).symm
  ·exact .inr ⟨(zt hsi).trans g1,g2⟩
 ·rcases h1 with⟨g1,g2⟩|⟨g1,g2⟩
  ·refine .inl ⟨(zt hsj).trans g1,g2.move (jO hsj) (fun hbig=>?_) (fun hbig x hx=>?_)⟩
   ·rw[hfj' g1]at hbig;rw[f3 hbig];rfl
   ·rw[hfj' g1]at hbig hx;exact QA (fun y hy=>f4 hbig x hx y hy)
  ·exact .inr ⟨(zt hsj).trans g1,g2⟩
 ·show get (putO oi.dst vi (putO oj.dst vj st.s)) t=get (putO oj.dst vj (putO oi.dst vi st.s)) t;cases hdi:oi.dst with
  |none=>rfl
  |some di=>
   cases hdj:oj.dst with
   |none=>rfl
   |some dj=>
    have hne:di≠dj:=fun e=>hc di hdi (by rw[hdj,e])
    show get (put di vi (put dj vj st.s)) t=get (put dj vj (put di vi st.s)) t;simp only[jb];by_cases h3:di=t
    ·subst h3;rw[if_pos rfl,if_neg (fun e=>hne e.symm),if_pos rfl]
    ·rw[if_neg h3];simp only[h3,if_false]
 ·exact zey f5
def RunS(E:Env)(all:List Oper)(base:Nat):List Nat→St→St→Prop
 |[],st,st'=>Eqv st st'
 |i::r,st,st'=>∃s1,StepS E all base i st s1∧RunS E all base r s1 st'
theorem RunS.eqv:∀{l:List Nat}{st st' st2:St},RunS E all base l st st'→Eqv st st2→RunS E all base l st2 st'
 |[],_,_,_,h,e=>e.symm.trans h
 |i::r,st,st',st2,⟨s1,h1,h2⟩,e=>by obtain⟨s2,h3,h4⟩:=h1.eqv e;exact⟨s2,h3,h2.eqv h4⟩
theorem RunS.slots:∀{l:List Nat}{st st':St},RunS E all base l st st'→∀t,(∀k∈l,∀o,all[k]? =some o→o.dst≠some t)→get st'.s t=get st.s t
 |[],_,_,h,t,_=>(h.1 t).symm
 |i::r,st,st',⟨s1,⟨o,v,u,h1,h2,_⟩,h3⟩,t,hk=>by rw[RunS.slots h3 t (fun k hk'=>hk k (List.mem_cons_of_mem _ hk')),h2];exact jv (hk i List.mem_cons_self o h1)
theorem zvz{Q:List FuncId}{ev:Operand→AV}{nid:Nat}{o:Oper}(hb:(fpO Q ev nid o.op).big=false)(hr:(fpO Q ev nid o.op).r=[]):∀x∈(fpO Q ev nid o.op).w,nid≤x∧x<nid+rsv o:=by
 intro x hx;obtain⟨dst,op,type,pos,after,guard⟩:=o;simp only at hb hr hx;cases op with
 |call c=>
  obtain⟨callee,args,ats⟩:=c;cases callee with
  |value f=>
   simp only[fpO]at hb hr hx;split at hx
   ·split at hx
    ·simp only[newIds,List.mem_map,List.mem_range]at hx;obtain⟨y,hy,rfl⟩:=hx;exact⟨by omega,by show nid+y<nid+jL;omega⟩
    ·cases hx
    ·cases hx
   ·split at hx
    ·simp only[newIds,List.mem_map,List.mem_range]at hx;obtain⟨y,hy,rfl⟩:=hx;exact⟨by omega,by show nid+y<nid+jL;omega⟩
    ·cases hx
   ·cases hx
  |builtin b=>
   cases b with
   |copy=>simp only[fpO]at hr hx;rw[hr]at hx;cases hx
   |_=>simp only[fpO]at hx;cases hx
  |_=>simp only[fpO]at hx;cases hx
 |store t a y=>simp only[fpO]at hr hx;rw[hr]at hx;cases hx
 |mapUpdate t m a y=>simp only[fpO]at hr hx;rw[hr]at hx;cases hx
 |insert t m a y=>simp only[fpO]at hr hx;rw[hr]at hx;cases hx
 |alloc t=>simp only[fpO,List.mem_singleton]at hx;subst hx;exact⟨Nat.le_refl _,Nat.lt_succ_self _⟩
 |box t y=>simp only[fpO,List.mem_singleton]at hx;subst hx;exact⟨Nat.le_refl _,Nat.lt_succ_self _⟩
 |buildSlice t n p=>simp only[fpO,List.mem_singleton]at hx;subst hx;exact⟨Nat.le_refl _,Nat.lt_succ_self _⟩
 |makeSlice t a b=>simp only[fpO,List.mem_singleton]at hx;subst hx;exact⟨Nat.le_refl _,Nat.lt_succ_self _⟩
 |makeMap t a=>simp only[fpO,List.mem_singleton]at hx;subst hx;exact⟨Nat.le_refl _,Nat.lt_succ_self _⟩
 |convert a b y=>simp only[fpO,List.mem_singleton]at hx;subst hx;exact⟨Nat.le_refl _,Nat.lt_succ_self _⟩
 |binOp bop t a y yt=>simp only[fpO]at hx;split at hx<;>cases hx
 |_=>simp only[fpO]at hx;cases hx
theorem zcr{nid:Nat}{o:Oper}{st:St}(hb:(fpW E all st nid o).big=false)(hr:(fpW E all st nid o).r=[]):∀x∈(fpW E all st nid o).w,nid≤x∧x<nid+rsv o:=by
 unfold fpW at hb hr⊢;split
 ·intro x hx;cases hx
 ·rename_i hne;split at hb
  ·rename_i e;exact (hne e).elim
  ·split at hr
   ·rename_i e;exact (hne e).elim
   ·exact zvz hb hr
theorem zno{j:Nat}{oj:Oper}{st s1:St}{fi:Fp}(hoj:all[j]? =some oj)(h1:StepS E all base j st s1)(hp:YW (fpW E all st (nidOf all base j) oj) fi=true)
  (hb:fi.big=false) {x:Nat} (hx:x∈fi.w) (hn:hget st.h x=none):hget s1.h x=none:=by
 obtain⟨o,vj,uj,e1,rfl,h1⟩:=h1;rw[hoj]at e1;cases e1;rcases h1 with⟨hw,h⟩|⟨_,_,rfl⟩
 ·unfold Loc at h;rw[←Ju hw]at h;have hk:∀y∈uj,y.1≠x:=by
   unfold YW at hp;rw[hb]at hp;split at hp
   ·rename_i b1 _;simp only[Bool.and_eq_true]at hp;intro y hy e;exact Q4 hp.1.2 y.1 (h.1 b1 y hy) (e▸hx)
   ·simp only[Bool.and_eq_true,Bool.or_eq_true]at hp;rcases hp with⟨p1,_⟩|⟨_,p2,p3⟩
    ·rw[zX p1]at hx;cases hx
    ·rw[h.2.1 (zX p3) (.inr (ZT p2))];intro y hy;cases hy
   ·rename_i hh;cases hh
   ·rename_i hh;cases hh
  show hget (jA st.h uj) x=none;rw[QA hk];exact hn
 ·exact hn
theorem zw4{i M:Nat}{oi:Oper}{l2:List Nat}{stn:St}(hoi:all[i]? =some oi)
  (hA:∀(j k:Nat)(oj ok:Oper)(d:Nat),all[j]? =some oj→all[k]? =some ok→j≤k→k<M→ok.dst=some d→d∉oj.looksAt all.toArray)
  (hE:∀(j k:Nat)(oj ok:Oper)(d:Nat),all[j]? =some oj→all[k]? =some ok→j≠k→oj.dst=some d→ok.dst≠some d):
  ∀(l1:List Nat)(st:St),(∀k∈l1++i::l2,k<M)→(l1++i::l2).Pairwise (· < ·)→(∀k∈l1++i::l2,∀ok d,all[k]? =some ok→ok.dst=some d→d∉oi.looksAt all.toArray)→
   (∀j∈l1,∀oj,all[j]? =some oj→YW (fpW E all stn (nidOf all base j) oj) (fpW E all stn (nidOf all base i) oi)=true)→
   ((fpW E all stn (nidOf all base i) oi).big=false→(fpW E all stn (nidOf all base i) oi).r=[]→∀x∈(fpW E all stn (nidOf all base i) oi).w,hget st.h x=none)→
   RunS E all base (l1++i::l2) st stn→∃s',StepS E all base i st s'∧RunS E all base (l1++l2) s' stn
 |[],st,_,_,_,_,_,⟨s1,h1,h2⟩=>⟨s1,h1,h2⟩
 |j::l1,st,hM,hsort,hB,hD,hN,⟨s1,h1,h2⟩=>by
  have hs:=List.pairwise_cons.1 hsort;have hij:j<i:=hs.1 i (by simp);have hfin0:RunS E all base (j::(l1++i::l2)) st stn:=⟨s1,h1,h2⟩
  have hN1:(fpW E all stn (nidOf all base i) oi).big=false→(fpW E all stn (nidOf all base i) oi).r=[]→∀x∈(fpW E all stn (nidOf all base i) oi).w,hget s1.h x=none:=fun hb hr x hx=>by
   obtain⟨oj,hoj⟩:∃oj,all[j]? =some oj:=let⟨oj,_,_,e,_⟩:=h1;⟨oj,e⟩;have ej:fpW E all st (nidOf all base j) oj=fpW E all stn (nidOf all base j) oj:=by
    refine WK (fun t ht=>(hfin0.slots t fun k hk ok hok hd=>?_).symm);have hjk:j≤k:=by
     rcases List.mem_cons.1 hk with rfl|hk
     ·exact Nat.le_refl _
     ·exact Nat.le_of_lt (hs.1 k hk)
    exact hA j k oj ok t hoj hok hjk (hM k hk) hd ht
   exact zno hoj h1 (by rw[ej];exact hD j (by simp) oj hoj) hb hx (hN hb hr x hx)
  obtain⟨s2,g1,g2⟩:=zw4 hoi hA hE l1 s1 (fun k hk=>hM k (List.mem_cons_of_mem _ hk)) hs.2 (fun k hk=>hB k (List.mem_cons_of_mem _ hk)) (fun k hk=>hD k (List.mem_cons_of_mem _ hk)) hN1 h2;obtain⟨oj,vj,uj,e1,e2,e3⟩:=h1;have hfin:RunS E all base (j::(l1++i::l2)) st stn:=⟨s1,⟨oj,vj,uj,e1,e2,e3⟩,h2⟩
  have ej:fpW E all st (nidOf all base j) oj=fpW E all stn (nidOf all base j) oj:=by
   refine WK (fun t ht=>(hfin.slots t fun k hk ok hok hd=>?_).symm);have hjk:j≤k:=by
    rcases List.mem_cons.1 hk with rfl|hk
    ·exact Nat.le_refl _
    ·exact Nat.le_of_lt (hs.1 k hk)
   exact hA j k oj ok t e1 hok hjk (hM k hk) hd ht
  have ei:fpW E all s1 (nidOf all base i) oi=fpW E all stn (nidOf all base i) oi:=by refine WK (fun t ht=>(h2.slots t fun k hk ok hok hd=>?_).symm);exact hB k (List.mem_cons_of_mem _ hk) ok t hok hd ht
  obtain⟨s1',s2',k1,k2,k3⟩:=zx5 hoi e1 ⟨oj,vj,uj,e1,e2,e3⟩ g1 (fun d hd=>hB j (by simp) oj d e1 hd) (fun d hd=>hA j i oj oi d e1 hoi (Nat.le_of_lt hij) (hM i (by simp)) hd)
   (fun d hd=>hE i j oi oj d hoi e1 (by omega) hd) (by rw[ej,ei];exact hD j (by simp) oj e1) (by rw[ei];exact hN)
  exact⟨s1',k1,s2',k2,g2.eqv k3⟩
end
end Go.Am
