/-
  A part of the proof of the laws.
-/
import Derived.Test.YtckmndepnihanaaGreatDoorAm17
namespace Go.Am
open Go Go.RowKit Go.Vc
theorem zcq{a b:IntKind}(h:kEq a b=true):a=b:=by cases a<;>cases b<;>first|rfl|cases h
mutual
theorem YI:∀(a b:AV),zcE a b=true→a=b
 |a,b,h=>by
  cases a<;>cases b<;>simp only[zcE,Bool.and_eq_true,decide_eq_true_eq,beq_iff_eq,Bool.false_eq_true]at h;any_goals first
   |rfl
   |(subst h;rfl)
   |(rw[zcq h.1,h.2])
   |(rw[Nat.eq_of_beq_eq_true h])
   |(rw[Nat.eq_of_beq_eq_true h.1,Nat.eq_of_beq_eq_true h.2])
   |(rw[h.1,h.2])
   |(rw[h.1.1,zcq h.1.2,h.2])
   |(rw[YI _ _ h])
   |(rw[h.1.1,Nat.eq_of_beq_eq_true h.1.2,yi _ _ h.2])
   |(rw[Nat.eq_of_beq_eq_true h.1.1,Nat.eq_of_beq_eq_true h.1.2,h.2.1,h.2.2])
   |(rw[Nat.eq_of_beq_eq_true h.1.1,yi _ _ h.1.2,yi _ _ h.2])
   |(rw[yi _ _ h])
   |(rw[Nat.eq_of_beq_eq_true h.1.1,Nat.eq_of_beq_eq_true h.1.2,h.2.1,Nat.eq_of_beq_eq_true h.2.2])
   |(rw[zcq h])
   |(rw[Nat.eq_of_beq_eq_true h.1,YI _ _ h.2])
theorem yi:∀(a b:List AV),qi a b=true→a=b
 |[],[],_=>rfl
 |a::r,b::s,h=>by simp only[qi,Bool.and_eq_true]at h;rw[YI a b h.1,yi r s h.2]
 |[],_::_,h=>by cases h
 |_::_,[],h=>by cases h
end
section
variable {E : Env} {all : List Oper} {base : Nat}
theorem zdV{nid:Nat}{op:Op}(ha:qb op=true){st:St}{T:Type}{k:AV→St→Option T}{r:T}(h:opK E false nid op st k=some r):
  ∃v D hh,k v ⟨(scrub D st).s,hh⟩=some r∧∀st':St,st'.h=st.h→(∀x∈op.operands,opnd E.gl st'.s x=opnd E.gl st.s x)→∀(T':Type)(k':AV→St→Option T'),opK E false nid op st' k'=k' v ⟨(scrub D st').s,hh⟩:=by
 unfold qb at ha;split at ha
 ·rename_i args ats;simp only[opK]at h;split at h
  ·rename_i t tx s x _ e1 e2;have hs:∀st':St,(∀x∈(Op.call ⟨.builtin .append,args,ats⟩).operands,opnd E.gl st'.s x=opnd E.gl st.s x)→opnd E.gl st'.s s=opnd E.gl st.s s∧opnd E.gl st'.s x=opnd E.gl st.s x:=fun st' ho=>by
    have eargs:args= #[s,x]:=by apply Array.ext';simpa using e2
    subst eargs;exact⟨ho s (by simp[Op.operands,Call.operands]),ho x (by simp[Op.operands,Call.operands])⟩
   split at h
   ·rename_i bb cc o hg;cases bb with
    |false=>rw[cond_false]at h;refine⟨_,[],st.h,h,fun st' hh ho T' k'=>?_⟩;obtain⟨o1,o2⟩:=hs st' ho;simp only[opK,e1,e2,o1,o2,hh,hg,cond_false];rw[←hh];rfl
    |true=>rw[cond_true]at h;obtain⟨rfl,h⟩:=zo h;refine⟨_,[],_,h,fun st' hh ho T' k'=>?_⟩;obtain⟨o1,o2⟩:=hs st' ho;simp only[opK,e1,e2,o1,o2,hh,hg,cond_true];rfl
   ·rename_i hg0;split at h
    ·rename_i cc j o hg;obtain⟨hc,h⟩:=zo h;refine⟨_,[j],_,h,fun st' hh ho T' k'=>?_⟩;obtain⟨o1,o2⟩:=hs st' ho;simp only[opK,e1,e2,o1,o2,hh,hg0,hg,hc];rw[show(scrub [j] st').h=(scrub [j] st).h by show st'.h.map _=st.h.map _;rw[hh]];rfl
    ·rename_i cc o hg;obtain⟨hc,h⟩:=zo h;refine⟨_,[],_,h,fun st' hh ho T' k'=>?_⟩;obtain⟨o1,o2⟩:=hs st' ho;simp only[opK,e1,e2,o1,o2,hh,hg0,hg,hc];rfl
    ·cases h
  ·cases h
 ·cases ha
theorem zjQ{D:List Nat}{st st':St}(h:st'.h=st.h):(scrub D st').h=(scrub D st).h:=by
 cases D with
 |nil=>exact h
 |cons a r=>show st'.h.map _=st.h.map _;rw[h]
theorem zdM{nid:Nat}{f:FuncId}{args:List AV}{st:St}{T:Type}{k:AV→St→Option T}{r:T}(h:yD E false nid f args st k=some r):
  ∃v D hh,k v ⟨(scrub D st).s,hh⟩=some r∧∀st':St,st'.h=st.h→∀(T':Type)(k':AV→St→Option T'),yD E false nid f args st' k'=k' v ⟨(scrub D st').s,hh⟩:=by
 unfold yD at h;simp only[]at h;split at h
 ·rename_i args' hv h1 h2 h3;obtain⟨o,h4,_,h5⟩:=Jz h;split at h4
  ·rename_i v ho g1 g2 g3 g4;split at h4
   ·rename_i hD;refine⟨v,[],_,h4,fun st' he T' k'=>?_⟩;unfold yD;simp only[he,h1,h2,h3];rw[h5];simp only[g1,g2,g3,g4,hD];rfl
   ·rename_i hD;generalize hgo:Js (reach st.h 1000 (idsL args) []++newIds nid (o.h.length-(reach st.h 1000 (idsL args) []).length)) ho=D0 at h4 hD;cases D0 with
    |nil=>exact absurd rfl hD
    |cons d D=>refine⟨v,d::D,_,h4,fun st' he T' k'=>?_⟩;unfold yD;simp only[he,h1,h2,h3];rw[h5];simp only[g1,g2,g3,g4,hgo];rw[zjQ (st:=⟨st.s,st.h⟩) (st':=⟨st'.s,st.h⟩) rfl];exact congrArg (fun x=>k' v ⟨(scrub (d::D) x).s,_⟩) (show(⟨st'.s,st.h⟩:St)=st' by rw[←he])
  ·cases h4
 ·cases h
theorem zdL{nid:Nat}{n:Int}{args:List AV}{st:St}{T:Type}{k:AV→St→Option T}{r:T}:∀{fs:List FuncId}{i:Nat},Z1 E false nid n args st k i fs=some r→
  ∃v D hh,k v ⟨(scrub D st).s,hh⟩=some r∧∀st':St,st'.h=st.h→∀(T':Type)(k':AV→St→Option T'),Z1 E false nid n args st' k' i fs=k' v ⟨(scrub D st').s,hh⟩
 |[],_,h=>by cases h
 |f::fs,i,h=>by
  simp only[Z1]at h;cases hb:decide (n=(i:Int))with
  |true=>rw[hb,cond_true]at h;obtain⟨v,D,hh,h1,h2⟩:=zdM h;exact⟨v,D,hh,h1,fun st' he T' k'=>by simp only[Z1,hb,cond_true];exact h2 st' he T' k'⟩
  |false=>rw[hb,cond_false]at h;obtain⟨v,D,hh,h1,h2⟩:=zdL h;exact⟨v,D,hh,h1,fun st' he T' k'=>by simp only[Z1,hb,cond_false];exact h2 st' he T' k'⟩
theorem zr5{nid:Nat}{op:Op}{st:St}{T:Type}{k:AV→St→Option T}{r:T}(h:opK E (Wb op) nid op st k=some r):
  ∃v D hh,k v ⟨(scrub D st).s,hh⟩=some r∧∀st':St,st'.h=st.h→(∀x∈op.operands,opnd E.gl st'.s x=opnd E.gl st.s x)→∀(T':Type)(k':AV→St→Option T'),opK E (Wb op) nid op st' k'=k' v ⟨(scrub D st').s,hh⟩:=by
 have strict:Wb op=true→∃v D hh,k v ⟨(scrub D st).s,hh⟩=some r∧∀st':St,st'.h=st.h→(∀x∈op.operands,opnd E.gl st'.s x=opnd E.gl st.s x)→∀(T':Type)(k':AV→St→Option T'),opK E (Wb op) nid op st' k'=k' v ⟨(scrub D st').s,hh⟩:=by intro hs;rw[hs]at h⊢;obtain⟨v,u,h1,h2⟩:=QP h;refine⟨v,[],jA st.h u,h1,fun st' he ho T' k'=>?_⟩;have:=h2.2.2.1 st' ho (fun _=>he) (fun _ _ _=>by rw[he]) T' k';rw[this,he];rfl
 by_cases ha:qb op=true
 ·have hs:Wb op=false:=by
   unfold qb at ha;split at ha
   ·rfl
   ·cases ha
  rw[hs]at h⊢;exact zdV ha h
 ·cases op with
  |call c=>
   obtain⟨callee,args,ats⟩:=c;cases callee with
   |value f=>
    have hargs:∀st':St,(∀x∈(Op.call ⟨.value f,args,ats⟩).operands,opnd E.gl st'.s x=opnd E.gl st.s x)→opnd E.gl st'.s f=opnd E.gl st.s f∧args.toList.map (opnd E.gl st'.s)=args.toList.map (opnd E.gl st.s):=fun st' ho=>⟨ho f (by simp[Op.operands,Call.operands]),List.map_congr_left fun x hx=>ho x (by simp only[Op.operands,Call.operands];simp;exact .inr (by simpa using hx))⟩
    show∃v D hh,_∧∀st':St,_→_→∀(T':Type)(k':AV→St→Option T'),opK E false nid (.call ⟨.value f,args,ats⟩) st' k'=_;have h:opK E false nid (.call ⟨.value f,args,ats⟩) st k=some r:=h;simp only[opK]at h;split at h
    ·rename_i g first cap hg
     obtain⟨v,D,hh,h1,h2⟩:=zdM h;refine⟨v,D,hh,h1,fun st' he ho T' k'=>?_⟩;obtain⟨o1,o2⟩:=hargs st' ho;simp only[opK,o1,o2,hg];exact h2 st' he T' k'
    ·rename_i n fs hg;obtain⟨v,D,hh,h1,h2⟩:=zdL h;refine⟨v,D,hh,h1,fun st' he ho T' k'=>?_⟩;obtain⟨o1,o2⟩:=hargs st' ho;simp only[opK,o1,o2,hg];exact h2 st' he T' k'
    ·cases h
   |builtin b=>
    cases b with
    |append=>exact absurd rfl ha
    |_=>exact strict rfl
   |invoke r m=>exact strict rfl
  |_=>exact strict rfl
theorem zdp(D:List Nat){s s':St}{t:Nat}(h:get s'.s t=get s.s t):get (scrub D s').s t=get (scrub D s).s t:=by
 cases D with
 |nil=>exact h
 |cons a r=>show get (s'.s.map _) t=get (s.s.map _) t;rw[Ye,Ye,h]
theorem ze8{o:Oper}{i:Nat}{st:St}{T:Type}{K:St→Option T}{r:T}(h:znz E all base o i st K=some r):
  ∃v D hh,K ⟨putO o.dst v (scrub D st).s,hh⟩=some r∧∀st':St,st'.h=st.h→(∀t∈o.looksAt all.toArray,get st'.s t=get st.s t)→
   (zu all o st'=some true∧opK E (Wb o.op) (nidOf all base i) o.op st' (fun v s=>some (v,s))=some (v,⟨(scrub D st').s,hh⟩))∨(zu all o st'=some false∧v=.tup []∧D=[]∧hh=st'.h):=by
 unfold znz at h;split at h
 ·rename_i hw;obtain⟨v,D,hh,h1,h2⟩:=zr5 h;exact⟨v,D,hh,h1,fun st' he hl=>.inl ⟨(zt hl).trans hw,h2 st' he (jO hl) _ _⟩⟩
 ·rename_i hw;exact⟨.tup [],[],st.h,h,fun st' he hl=>.inr ⟨(zt hl).trans hw,rfl,rfl,he.symm⟩⟩
 ·cases h
theorem ze7:∀{fl:List (Oper×Nat)}{st:St}{T:Type}{k:St→Option T}{r:T},znx E all base fl st k=some r→
  ∃st':St,k st'=some r∧st'.h=st.h∧∀t,(∀f∈fl,f.1.dst≠some t)→get st'.s t=get st.s t
 |[],st,_,_,_,h=>⟨st,h,rfl,fun _ _=>rfl⟩
 |(o,j)::fl,st,T,k,r,h=>by
  simp only[znx]at h;have go:∀{v:AV},znx E all base fl ⟨putO o.dst v st.s,st.h⟩ k=some r→∃st':St,k st'=some r∧st'.h=st.h∧∀t,(∀f∈(o,j)::fl,f.1.dst≠some t)→get st'.s t=get st.s t:=by intro v h;obtain⟨st',h1,h2,h3⟩:=ze7 h;exact⟨st',h1,h2,fun t ht=>(h3 t (fun f hf=>ht f (List.mem_cons_of_mem _ hf))).trans (jv (ht (o,j) List.mem_cons_self))⟩
  split at h
  ·obtain⟨v,u,h1,_⟩:=QP h;exact go h1
  ·exact go h
  ·cases h
def CkF(E:Env)(all:List Oper)(base j:Nat)(o:Oper)(cs:St):Prop:=∃v,(∀d,o.dst=some d→get cs.s d=v)∧((zu all o cs=some true∧Loc E (nidOf all base j) o.op cs v [])∨(zu all o cs=some false∧v=.tup []))
theorem zrK{d:Option Nat}{v:AV}{st:St}(h:zi3 d v st=true):∀e,d=some e→get st.s e=v:=by intro e he;subst he;exact (YI _ _ h).symm
theorem WX{st:St}:∀{fl:List (Oper×Nat)}{T:Type}{k:Option T}{r:T},zk2 E all base fl st k=some r→k=some r∧∀f∈fl,CkF E all base f.2 f.1 st
 |[],_,_,_,h=>⟨h,fun f hf=>by cases hf⟩
 |(o,j)::fl,T,k,r,h=>by
  simp only[zk2]at h;split at h
  ·cases h
  ·rename_i hlk;have go:∀{v:AV},cond (zi3 o.dst v st) (zk2 E all base fl st k) none=some r→((zu all o st=some true∧Loc E (nidOf all base j) o.op st v [])∨(zu all o st=some false∧v=.tup []))→
     k=some r∧∀f∈(o,j)::fl,CkF E all base f.2 f.1 st:=by
    intro v h hc;cases hd:zi3 o.dst v st with
    |false=>rw[hd]at h;cases h
    |true=>
     rw[hd,cond_true]at h;obtain⟨h1,h2⟩:=WX h;exact⟨h1,fun f hf=>by
      rcases List.mem_cons.1 hf with rfl|hf
      ·exact⟨v,zrK hd,hc⟩
      ·exact h2 f hf⟩
   split at h
   ·rename_i hw;obtain⟨v,u,h1,h2⟩:=QP h;have hu:u=[]:=by
     unfold zhe at hlk;rw[Bool.and_eq_true,Bool.or_eq_true,Ju hw]at hlk;refine h2.2.1 (zX hlk.1) ?_;rcases hlk.2 with h|h
     ·exact .inl (by simpa using h)
     ·exact .inr (ZT h)
    subst hu;exact go h1 (.inl ⟨hw,h2⟩)
   ·rename_i hw;exact go h (.inr ⟨hw,rfl⟩)
   ·cases h
def KontG(E:Env)(ops:List Oper)(base:Nat)(fs az:List (Oper×Nat)){T:Type}(k:St→Option T)(r:T)(cs:St):Prop:=match az with
 |[]=>k cs=some r
 |(o,i)::l=>znz E ops base o i cs (fun st=>evG E ops base (beforeOf true ops) fs l (some i) st k)=some r
theorem ziY{ops:List Oper}{fs az:List (Oper×Nat)}{pa:Option Nat}{st:St}{T:Type}{k:St→Option T}{r:T}(hf:fs=ops.zipIdx.filter fun x=>!isAnch x.1.op)(h:evG E ops base (beforeOf true ops) fs az pa st k=some r):
  ∃cs,cs.h=st.h∧(∀t,(∀j o,ops[j]? =some o→isAnch o.op=false→(∀p,pa=some p→Anc ops j p)→o.dst≠some t)→get cs.s t=get st.s t)∧
   (∀j o,ops[j]? =some o→isAnch o.op=false→(∀x∈az,¬Anc ops j x.2)→(∀p,pa=some p→¬Anc ops p j)→CkF E ops base j o cs)∧KontG E ops base fs az k r cs:=by
 have stage:∀{K:St→Option T},zfG E ops base (beforeOf true ops) fs az pa st K=some r→∃cs,cs.h=st.h∧(∀t,(∀j o,ops[j]? =some o→isAnch o.op=false→(∀p,pa=some p→Anc ops j p)→o.dst≠some t)→get cs.s t=get st.s t)∧
   (∀j o,ops[j]? =some o→isAnch o.op=false→(∀x∈az,¬Anc ops j x.2)→(∀p,pa=some p→¬Anc ops p j)→CkF E ops base j o cs)∧K cs=some r:=by
  intro K h;unfold zfG at h;obtain⟨cs,h1,h2,h3⟩:=ze7 h;obtain⟨h4,h5⟩:=WX h1;refine⟨cs,h2,fun t ht=>h3 t (fun f hf1=>?_),fun j o hj ha hx hp=>?_,h4⟩
  ·rw[List.mem_filter,Bool.and_eq_true]at hf1;obtain⟨m1,m2,m3⟩:=hf1;rw[hf,List.mem_filter]at m1;obtain⟨m1,m4⟩:=m1;refine ht f.2 f.1 (List.mem_zipIdx_iff_getElem?.1 m1) (by simpa using m4) fun p hp=>?_
   subst hp;exact zI (zy.1 m3)
  ·refine h5 (o,j) ?_;rw[List.mem_filter,Bool.and_eq_true];refine⟨?_,?_,?_⟩
   ·rw[hf,List.mem_filter];exact⟨List.mem_zipIdx_iff_getElem?.2 hj,by simp[ha]⟩
   ·unfold zjF;rw[List.all_eq_true];intro x hxm;cases hb:memN x.2 ((beforeOf true ops)[j]?.getD [])with
    |false=>rfl
    |true=>exact absurd (zI (zy.1 hb)) (hx x hxm)
   ·unfold zwi;cases pa with
    |none=>rfl
    |some p=>
     show(!memN j ((beforeOf true ops)[p]?.getD []))=true;cases hb:memN j ((beforeOf true ops)[p]?.getD [])with
     |false=>rfl
     |true=>exact absurd (zI (zy.1 hb)) (hp p rfl)
 cases az with
 |nil=>exact stage h
 |cons x l=>obtain⟨o,i⟩:=x;exact stage h
variable {GP : Ro → Prop} {c : Base}
def zaE(ops:List Oper)(listed:Array Bool):List Nat:=(List.range ops.length).filter fun j=>!listed.getD j false
structure AtG(E:Env)(GP:Ro→Prop)(c:Base)(ops:List Oper)(base:Nat)(fs az:List (Oper×Nat))(pa:Option Nat){T:Type}(k:St→Option T)(r:T)(cs:St)(listed:Array Bool)(s:St)(R:Ro)(G:List Res)(a:Act)(w:World):Prop where
 sz:listed.size=ops.length
 cl:∀i,listed.getD i false=true→∀o,ops[i]? =some o→∀e∈edgesOf o,listed.getD e false=true
 fit:Fit c E.n R G s a w
 gp:GP R
 len:s.h.length=base+rsvAll ops
 free:∀i o,ops[i]? =some o→listed.getD i false=false→FreeR s.h (nidOf ops base i) (rsv o)
 hp:s.h=cs.h
 sl:∀t,(∀j o,ops[j]? =some o→o.dst=some t→isAnch o.op=false→listed.getD j false=true)→get s.s t=get cs.s t
 an:∀i o,ops[i]? =some o→isAnch o.op=true→((o,i)∈az↔listed.getD i false=false)
 az2:∀f∈az,ops[f.2]? =some f.1∧isAnch f.1.op=true
 ch:az.Pairwise fun x y=>Anc ops y.2 x.2
 pal:∀p,pa=some p→listed.getD p false=true
 ck:∀j o,ops[j]? =some o→isAnch o.op=false→(∀x∈az,¬Anc ops j x.2)→(∀p,pa=some p→¬Anc ops p j)→CkF E ops base j o cs
 kont:KontG E ops base fs az k r cs
theorem zya(hΓ:∀C∈E.Γ,SoundC E.P GP C)(hgl:∀R,GP R→GlobOK E.gl R)(hst:Stays GP){ops:List Oper}{T:Type}{r:T}{k:St→Option T}{Q:Exit→Act→World→Prop}{base:Nat}{fs:List (Oper×Nat)}(hS:StatOk E.n 0 ops)(hcm:c.m≤base)
  (hfs:fs=ops.zipIdx.filter fun x=>!isAnch x.1.op)
  (hlook:∀i o t j oj,ops[i]? =some o→t∈o.looksAt ops.toArray→ops[j]? =some oj→oj.dst=some t→Anc ops i j∨isAnch oj.op=true)
  (hK:∀st' R' G' a' w',k st'=some r→Fit c E.n R' G' st' a' w'→GP R'→Q .normal a' w'):
  ∀(fuel:Nat)(az:List (Oper×Nat))(pa:Option Nat)(cs:St)(listed:Array Bool)(s:St)(R:Ro)(G:List Res)(a:Act)(w:World),AtG E GP c ops base fs az pa k r cs listed s R G a w→(zaE ops listed).length≤fuel→wpAny E.P .any ops.toArray Q fuel listed a w:=by
 have hE:∀(j k:Nat)(oj ok:Oper)(d:Nat),ops[j]? =some oj→ops[k]? =some ok→oj.dst=some d→ok.dst=some d→j=k:=by intro j k oj ok d hj hk hd hd';have h1:=(hS.lt j oj d hj hd).2;have h2:=(hS.lt k ok d hk hd').2;rw[h1]at h2;exact Option.some.inj h2
 have hend:∀(az:List (Oper×Nat))(pa:Option Nat)(cs:St)(listed:Array Bool)(s:St)(R:Ro)(G:List Res)(a:Act)(w:World),AtG E GP c ops base fs az pa k r cs listed s R G a w→Region.ready .any ops.toArray listed=[]→Q .normal a w:=by
  intro az pa cs listed s R G a w I hr;have hall:∀j,j<ops.length→listed.getD j false=true:=by
   intro j;induction j using Nat.strongRecOn with
   |_ j ih=>
    intro hj;cases hb:listed.getD j false with
    |true=>rfl
    |false=>
     exfalso;have:j∈Region.ready .any ops.toArray listed:=by
      rw[mem_ready];refine⟨?_,ops[j],by simp[hj],fun e he hbind=>?_⟩
      ·have hlt:j<listed.size:=by rw[I.sz];exact hj
       simp[hlt]at hb⊢;exact hb
      ·have hlt:=hS.edge j ops[j] (by simp[hj]) e.on (by
        unfold edgesOf;rw[List.mem_filterMap];exact⟨e,by simpa using he,by simp[hbind]⟩)
       exact ih e.on hlt (by omega)
     rw[hr]at this;cases this
  have has:az=[]:=by
   cases az with
   |nil=>rfl
   |cons x l=>exfalso;obtain⟨h1,h2⟩:=I.az2 x List.mem_cons_self;have h3:=(I.an x.2 x.1 h1 h2).1 List.mem_cons_self;rw[hall x.2 (List.getElem?_eq_some_iff.1 h1).1]at h3;cases h3
  have hk:=I.kont;subst has;have hk:k cs=some r:=hk;have hsl:∀t,get s.s t=get cs.s t:=fun t=>I.sl t fun j o hj _ _=>hall j (List.getElem?_eq_some_iff.1 hj).1
  have F':Fit c E.n R G cs a w:=⟨by rw[←I.hp];exact I.fit.wrel,by rw[←I.hp];exact I.fit.since,fun t=>by rw[←hsl t,←I.hp];exact I.fit.slots t,I.fit.defers,I.fit.size⟩
  exact hK cs R G a w hk F' I.gp
 intro fuel;induction fuel with
 |zero=>
  intro az pa cs listed s R G a w I hfu;have hr:Region.ready .any ops.toArray listed=[]:=by
   rcases hc:Region.ready .any ops.toArray listed with _|⟨i,l⟩
   ·rfl
   ·exfalso;have hi:i∈Region.ready .any ops.toArray listed:=by rw[hc];simp
    rw[mem_ready]at hi;obtain⟨hun,o,ho,_⟩:=hi;have ho':ops[i]? =some o:=by simpa using ho
    have hilt:i<ops.length:=(List.getElem?_eq_some_iff.1 ho').1;have hil:i<listed.size:=by rw[I.sz];exact hilt
    have hSi:listed.getD i false=false:=by simp[hil]at hun⊢;exact hun
    have:i∈zaE ops listed:=by unfold zaE;rw[List.mem_filter];exact⟨by simpa using hilt,by rw[hSi];rfl⟩
    rw[List.length_eq_zero_iff.1 (by omega:(zaE ops listed).length=0)]at this;cases this
  exact⟨hr,hend az pa cs listed s R G a w I hr⟩
 |succ fuel ih=>
  intro az pa cs listed s R G a w I hfu;refine⟨fun hr=>hend az pa cs listed s R G a w I hr,fun i hi=>?_⟩;rw[mem_ready]at hi;obtain⟨hun,o,ho,hall⟩:=hi;have ho':ops[i]? =some o:=by simpa using ho
  have hilt:i<ops.length:=(List.getElem?_eq_some_iff.1 ho').1;have hil:i<listed.size:=by rw[I.sz];exact hilt
  have hSi:listed.getD i false=false:=by simp[hil]at hun⊢;exact hun
  have hdir:∀e∈edgesOf o,listed.getD e false=true:=by
   intro e he;unfold edgesOf at he;rw[List.mem_filterMap]at he;obtain⟨x,hx,hxe⟩:=he;split at hxe
   ·rename_i hb;cases hxe;exact hall x (by simpa using hx) hb
   ·cases hxe
  have hanc:∀k j,Anc ops k j→listed.getD k false=true→listed.getD j false=true:=by
   intro k j h;induction h with
   |one h he=>intro hk;exact I.cl _ hk _ h _ he
   |more h he _ ih=>intro hk;exact ih (I.cl _ hk _ h _ he)
  have hanci:∀j,Anc ops i j→listed.getD j false=true:=by
   intro j h;cases h with
   |one h he=>rw[ho']at h;cases h;exact hdir _ he
   |more h he h'=>rw[ho']at h;cases h;exact hanc _ _ h' (hdir _ he)
  have hset:∀j,(listed.setIfInBounds i true).getD j false=(listed.getD j false||Nat.beq j i):=by
   intro j;by_cases hji:j=i
   ·subst hji;simp[hil]
   ·have hne:¬i=j:=fun h=>hji h.symm
    have hb:Nat.beq j i=false:=by
     cases hb:Nat.beq j i with
     |false=>rfl
     |true=>exact absurd (Nat.eq_of_beq_eq_true hb) hji
    simp[hb,Array.getElem?_setIfInBounds_ne hne]
  have hset2:∀j,j≠i→(listed.setIfInBounds i true).getD j false=listed.getD j false:=by
   intro j hji;have hb:Nat.beq j i=false:=by
    cases hb:Nat.beq j i with
    |false=>rfl
    |true=>exact absurd (Nat.eq_of_beq_eq_true hb) hji
   rw[hset,hb,Bool.or_false]
  have hseti:(listed.setIfInBounds i true).getD i false=true:=by rw[hset,Nat.beq_refl,Bool.or_true]
  have hfu':(zaE ops (listed.setIfInBounds i true)).length≤fuel:=by
   obtain⟨l1,l2,g1,g2,_⟩:=qe (p:=fun j=>!listed.getD j false) (q:=fun j=>!(listed.setIfInBounds i true).getD j false) (l:=List.range ops.length) List.pairwise_lt_range (by simpa using hilt) (by simp only[hSi];rfl)
    (fun j=>by rw[hset];cases listed.getD j false<;>cases Nat.beq j i<;>rfl)
   unfold zaE at hfu⊢;rw[g1]at hfu;rw[g2];simp at hfu⊢;omega
  have hcl':∀j,(listed.setIfInBounds i true).getD j false=true→∀oj,ops[j]? =some oj→∀e∈edgesOf oj,(listed.setIfInBounds i true).getD e false=true:=by
   intro j hj oj hoj e he;rw[hset]at hj⊢;simp only[Bool.or_eq_true]at hj⊢;rcases hj with hj|hj
   ·exact .inl (I.cl j hj oj hoj e he)
   ·have:=Nat.eq_of_beq_eq_true hj;subst this;rw[ho']at hoj;cases hoj;exact .inl (hdir e he)
  have hfree':∀{h':Heap},ZO (nidOf ops base i) (rsv o) s.h h'→∀j oj,ops[j]? =some oj→(listed.setIfInBounds i true).getD j false=false→FreeR h' (nidOf ops base j) (rsv oj):=by
   intro h' hno j oj hoj hj x hx1 hx2;rw[hset]at hj;simp only[Bool.or_eq_false_iff]at hj;have hne:j≠i:=fun e=>by rw[e]at hj;simp at hj
   refine hno x (fun hh=>?_) (I.free j oj hoj hj.1 x hx1 hx2);rcases Nat.lt_or_gt_of_ne hne with hlt|hlt
   ·have:=jl (base:=base) hoj ho' hlt;omega
   ·have:=jl (base:=base) ho' hoj hlt;omega
  have hops:∀t∈o.looksAt ops.toArray,get s.s t=get cs.s t:=fun t ht=>I.sl t fun j oj hj hd hf=>by
   rcases hlook i o t j oj ho' ht hj hd with h|h
   ·exact hanci j h
   ·rw[hf]at h;cases h
  have hdst:VM E.n o.dst=true:=by
   cases hd:o.dst with
   |none=>rfl
   |some d=>exact (hS.lt i o d ho' hd).1
  unfold wpOp;have hoA:ops.toArray[i]? =some o:=by simpa using ho'
  simp only[hoA];cases ha:isAnch o.op with
  |false=>
   obtain⟨v,hv,hc⟩:=I.ck i o ho' ha (fun x hx hA=>by
    obtain⟨h1,h2⟩:=I.az2 x hx;have h3:=(I.an x.2 x.1 h1 h2).1 hx;rw[hanci x.2 hA]at h3;cases h3) (fun p hp hA=>by
    have:=hanc p i hA (I.pal p hp);rw[hSi]at this;cases this)
   have next:∀(R':Ro)(G':List Res)(a':Act)(w':World),Fit c E.n R' G' ⟨putO o.dst v s.s,s.h⟩ a' w'→GP R'→wpAny E.P .any ops.toArray Q fuel (listed.setIfInBounds i true) a' w':=by
    intro R' G' a' w' F' hGP';refine ih az pa cs (listed.setIfInBounds i true) ⟨putO o.dst v s.s,s.h⟩ R' G' a' w' ⟨by simpa using I.sz,hcl',F',hGP',I.len,hfree' (fun _ _ h=>h),I.hp,fun t ht=>?_,fun j oj hj haj=>?_,I.az2,I.ch,fun p hp=>?_,I.ck,I.kont⟩ hfu'
    ·by_cases hd:o.dst=some t
     ·show get (putO o.dst v s.s) t=_;rw[hd];show get (put t v s.s) t=_;rw[jb,if_pos rfl,hv t hd]
     ·show get (putO o.dst v s.s) t=_;rw[jv hd];refine I.sl t fun j oj hj hdj hfj=>?_
      have:=ht j oj hj hdj hfj;rwa [hset2 j (fun e=>by subst e;rw[ho']at hj;cases hj;exact hd hdj)]at this
    ·rw[hset2 j (fun e=>by subst e;rw[ho']at hj;cases hj;rw[ha]at haj;cases haj)];exact I.an j oj hj haj
    ·rw[hset,I.pal p hp];rfl
   rcases hc with⟨hw,hloc⟩|⟨hw,rfl⟩
   ·have hw':=(zt hops).trans hw;have hloc':Loc E (nidOf ops base i) o.op s v []:=hloc.move (jO hops) (fun _=>I.hp) (fun _ _ _=>by rw[I.hp]);rw[jB I.fit hS hw',if_pos rfl];have heff:=hloc'.eff (AV×St) (fun v s=>some (v,s));refine .inl (Oper.wp_mono ?_ (Z9 hΓ hgl I.fit I.gp (show c.m≤nidOf ops base i by unfold nidOf;omega) (I.free i o ho' hSi) (by rw[I.len];exact yT ho') heff));rintro a' w' ⟨v',st',R',G',V,h1,rfl,h2,h3,h4,h5,h6⟩;simp only[Option.some.injEq,Prod.mk.injEq]at h1;obtain⟨rfl,rfl⟩:=h1;exact next R' G' _ w' (h2.put hdst h3) (hst R R' h6 I.gp)
   ·have hw':=(zt hops).trans hw;rw[jB I.fit hS hw'];simp only[Bool.false_eq_true,if_false];exact next R G _ w (I.fit.put (v:=.tup []) (V:=undef) hdst ⟨[],rfl,rfl⟩) I.gp
  |true=>
   have hmem:=(I.an i o ho' ha).2 hSi;obtain⟨l,has⟩:∃l,az=(o,i)::l:=by
    have hch:=I.ch;have hin:=I.az2;have han:=I.an;cases az with
    |nil=>cases hmem
    |cons x l=>
     rcases List.mem_cons.1 hmem with h|h
     ·exact⟨l,by rw[←h]⟩
     ·exfalso;have h1:=(List.pairwise_cons.1 hch).1 (o,i) h;obtain⟨h2,h3⟩:=hin x List.mem_cons_self;have h4:=(han x.2 x.1 h2 h3).1 List.mem_cons_self;rw[hanci x.2 h1]at h4;cases h4
   have hk:=I.kont;rw[has]at hk;have hk:znz E ops base o i cs (fun st=>evG E ops base (beforeOf true ops) fs l (some i) st k)=some r:=hk;obtain⟨v,D,hh,hk,heffs⟩:=ze8 hk;obtain⟨cs',q1,q2,q3,q4⟩:=ziY hfs hk;have hch:=I.ch;rw[has]at hch;have hil2:(o,i)∉l:=fun h=>by have h1:=(List.pairwise_cons.1 hch).1 (o,i) h;have:=h1.lt hS.edge;simp only at this;omega
   have next:∀(R':Ro)(G':List Res)(a':Act)(w':World),Fit c E.n R' G' ⟨putO o.dst v (scrub D s).s,hh⟩ a' w'→GP R'→ZO (nidOf ops base i) (rsv o) s.h hh→hh.length=s.h.length→wpAny E.P .any ops.toArray Q fuel (listed.setIfInBounds i true) a' w':=by
    intro R' G' a' w' F' hGP' hno hlen';refine ih l (some i) cs' (listed.setIfInBounds i true) ⟨putO o.dst v (scrub D s).s,hh⟩ R' G' a' w' ⟨by simpa using I.sz,hcl',F',hGP',hlen'.trans I.len,hfree' hno,q1.symm,fun t ht=>?_,fun j oj hj haj=>?_,fun f hf=>I.az2 f (by rw[has];exact List.mem_cons_of_mem _ hf),(List.pairwise_cons.1 hch).2,fun p hp=>?_,q3,q4⟩ hfu'
    ·rw[q2 t fun j oj hj hfj hpj hdj=>?_]
     ·by_cases hd:o.dst=some t
      ·show get (putO o.dst v (scrub D s).s) t=get (putO o.dst v (scrub D cs).s) t;rw[hd];show get (put t v _) t=get (put t v _) t;rw[jb,jb,if_pos rfl,if_pos rfl]
      ·show get (putO o.dst v (scrub D s).s) t=get (putO o.dst v (scrub D cs).s) t;rw[jv hd,jv hd];refine zdp D (I.sl t fun j oj hj hdj hfj=>?_);have:=ht j oj hj hdj hfj;rwa [hset2 j (fun e=>by subst e;rw[ho']at hj;cases hj;exact hd hdj)]at this
     ·have h1:=ht j oj hj hdj hfj;have hji:j≠i:=fun e=>by subst e;rw[ho']at hj;cases hj;rw[ha]at hfj;cases hfj
      rw[hset2 j hji]at h1;have h2:=hanc j i (hpj i rfl) h1;rw[hSi]at h2;cases h2
    ·by_cases hji:j=i
     ·subst hji;rw[ho']at hj;cases hj;rw[hseti];exact⟨fun h=>absurd h hil2,fun h=>by cases h⟩
     ·rw[hset2 j hji,←I.an j oj hj haj,has,List.mem_cons];exact⟨fun h=>.inr h,fun h=>h.resolve_left fun e=>hji (by cases e;rfl)⟩
    ·cases hp;exact hseti
   rcases heffs s I.hp hops with⟨hw,hop⟩|⟨hw,rfl,rfl,rfl⟩
   ·rw[jB I.fit hS hw,if_pos rfl];refine .inl (Oper.wp_mono ?_ (Z9 hΓ hgl I.fit I.gp (show c.m≤nidOf ops base i by unfold nidOf;omega) (I.free i o ho' hSi) (by rw[I.len];exact yT ho') hop));rintro a' w' ⟨v',st',R',G',V,h1,rfl,h2,h3,h4,h5,h6⟩;simp only[Option.some.injEq,Prod.mk.injEq]at h1;obtain⟨rfl,rfl⟩:=h1;exact next R' G' _ w' (h2.put hdst h3) (hst R R' h6 I.gp) h4 h5
   ·rw[jB I.fit hS hw];simp only[Bool.false_eq_true,if_false];exact next R G _ w (I.fit.put (v:=.tup []) (V:=undef) hdst ⟨[],rfl,rfl⟩) I.gp (fun _ _ h=>h) rfl
theorem zfg{ops:List Oper}:∀{l:List (Oper×Nat)},zhF (beforeOf true ops) l=true→l.Pairwise fun x y=>Anc ops y.2 x.2
 |[],_=>List.Pairwise.nil
 |a::l,h=>by simp only[zhF,Bool.and_eq_true]at h;refine List.pairwise_cons.2 ⟨fun b hb=>?_,zfg h.2⟩;exact zI (zy.1 (List.all_eq_true.1 h.1 b hb))
theorem zkq{n:Nat}{ops:List Oper}(h:zaZ n ops (beforeOf true ops)=true):StatOk n 0 ops∧
  (∀i o t j oj,ops[i]? =some o→t∈o.looksAt ops.toArray→ops[j]? =some oj→oj.dst=some t→Anc ops i j∨isAnch oj.op=true)∧(ops.zipIdx.filter fun x=>isAnch x.1.op).Pairwise fun x y=>Anc ops y.2 x.2:=by
 unfold zaZ at h;rw[Bool.and_eq_true]at h;obtain⟨h,hc⟩:=h;have hlt:∀(i:Nat)(o:Oper)(d:Nat),ops[i]? =some o→o.dst=some d→Nat.blt d n=true∧wrFrom ops 0 d=some i:=by
  intro i o d hi hd;have h1:=jG h hi;simp only[Bool.and_eq_true]at h1;obtain⟨⟨h1,h2⟩,h3⟩:=h1;rw[hd]at h2;simp only[Bool.and_eq_true]at h2;obtain⟨h4,h5⟩:=h2;refine⟨h4,?_⟩;split at h5
  ·rename_i j hj;rw[hj,Nat.eq_of_beq_eq_true h5]
  ·cases h5
 refine⟨⟨fun i o hi e he=>?_,hlt,fun _ _ _ _ _ _ _=>.inr (Nat.zero_le _)⟩,fun i o t j oj hi ht hj hd=>?_,zfg hc⟩
 ·have h1:=jG h hi;simp only[Bool.and_eq_true]at h1;have:=List.all_eq_true.1 h1.1.1 e he;have:e+1≤i:=by simpa[Nat.blt]using this
  omega
 ·have h1:=jG h hi;simp only[Bool.and_eq_true]at h1;have:=List.all_eq_true.1 h1.2 t ht;rw[(hlt j oj t hj hd).2]at this;simp only[hj,Bool.or_eq_true,Bool.and_eq_true]at this;rcases this with this|⟨this,_⟩
  ·exact .inl (zI (zy.1 this))
  ·exact .inr this
theorem zkI(hm:E.P.follows .mixedOrders=true)(hΓ:∀C∈E.Γ,SoundC E.P GP C)(hgl:∀R,GP R→GlobOK E.gl R)(hst:Stays GP){ops:List Oper}{T:Type}{r:T}{k:St→Option T}{Q:Exit→Act→World→Prop}{st:St}{R:Ro}{G:List Res}
  {a:Act} {w:World} (F:Fit c E.n R G st a w) (hGP:GP R) (h:ZY E ops st k=some r) (hK:∀st' R' G' a' w',k st'=some r→Fit c E.n R' G' st' a' w'→GP R'→Q .normal a' w') {id:Nat}:
  (Code.region id ops.toArray true).wp E.P Q a w:=by
 unfold ZY at h;simp only[]at h;split at h
 ·rename_i hstat;obtain⟨hS,hlook,hch⟩:=zkq hstat;obtain⟨G0,F0,hfree,hlen⟩:=F.wide (rsvAll ops);have hcm:c.m≤st.h.length:=F.since.many;obtain⟨cs,q1,q2,q3,q4⟩:=ziY rfl h;have hf:∀j,(Array.replicate ops.toArray.size false).getD j false=false:=by
   intro j;by_cases hlt:j<ops.length
   ·simp[hlt]
   ·simp[hlt]
  refine wp_region_any hm ?_;refine zya hΓ hgl hst hS hcm rfl hlook hK ops.toArray.size _ none cs _ ⟨st.s,wide st.h (rsvAll ops)⟩ R G0 a _
   ⟨by simp,fun i hi=>?_,F0.keep (Keeps.drawn w _),hGP,hlen,fun i o hi _ x hx1 hx2=>hfree x (by unfold nidOf at hx1;omega),q1.symm,fun t ht=>?_,fun i o hi ha=>?_,fun f hf1=>?_,hch,fun p hp=>(by cases hp),q3,q4⟩ ?_
  ·rw[hf]at hi;cases hi
  ·rw[q2 t fun j o hj hfj _ hd=>?_];have:=ht j o hj hd hfj;rw[hf]at this;cases this
  ·rw[hf,List.mem_filter];exact⟨fun _=>rfl,fun _=>⟨List.mem_zipIdx_iff_getElem?.2 hi,ha⟩⟩
  ·rw[List.mem_filter]at hf1;exact⟨List.mem_zipIdx_iff_getElem?.1 hf1.1,hf1.2⟩
  ·have h1:=List.length_filter_le (fun j=>!(Array.replicate ops.toArray.size false).getD j false) (List.range ops.length);have h2:(List.range ops.length).length=ops.toArray.size:=by simp
   exact Nat.le_trans h1 (Nat.le_of_eq h2)
 ·cases h
end
end Go.Am
