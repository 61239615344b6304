/-
  A part of the proof of the laws.
-/
import Derived.Test.YtannhfbidakffaaGreatDoorAm27
namespace Go.Am
open Go Go.RowKit Go.Vc
def zwF:AO->AO->Bool
 |.cells T l,.cells T' j=>Nat.beq T T'&&qK l j
 |.bytes T l,.bytes T' j=>Nat.beq T T'&&decide (l=j)
 |.ints T k l,.ints T' H j=>Nat.beq T T'&&kEq k H&&decide (l=j)
 |.strs T l,.strs T' j=>Nat.beq T T'&&decide (l=j)
 |.vals T z l,.vals T' B j=>Nat.beq T T'&&Nat.beq z B&&qK l j
 |.gens T a z n l,.gens T' I B J j=>(Nat.beq T T'&&Nat.beq z B)&&(((a==I)&&Nat.beq n J)&&qK l j)
 |.mp l,.mp j=>qK (l.map Prod.fst) (j.map Prod.fst)&&qK (l.map Prod.snd) (j.map Prod.snd)
 |_,_=>false
theorem zot:∀(l j:List (AV×AV)),l.map Prod.fst=j.map Prod.fst->l.map Prod.snd=j.map Prod.snd->l=j
 |[],[],_,_=>rfl
 |(a,b)::r,(a',b')::s,h,k=>by simp only[uAh,List.cons.injEq]at h k;rw[h.1,k.1,zot r s h.2 k.2]
 |[],_::_,h,_=>by cases h
 |_::_,[],h,_=>by cases h
theorem zwE:∀(a b:AO),zwF a b=true->a=b:=fun a b h=>by
 cases a<;>cases b<;>simp only[zwF,mF,decide_eq_true_eq,beq_iff_eq,nA]at h;any_goals first
  |(rw[mE h.1,yb _ _ h.2])
  |(rw[mE h.1,h.2])
  |(rw[mE h.1.1,zgJ h.1.2,h.2])
  |(rw[mE h.1.1,mE h.1.2,yb _ _ h.2])
  |(rw[mE h.1.1,mE h.1.2,h.2.1.1,mE h.2.1.2,yb _ _ h.2.2])
  |(rw[zot _ _ (yb _ _ h.1) (yb _ _ h.2)])
def Yl:Heap->Heap->Bool
 |[],[]=>true
 |none::r,none::s=>Yl r s
 |some a::r,some b::s=>zwF a b&&Yl r s
 |_,_=>false
theorem Yk:∀(a b:Heap),Yl a b=true->a=b
 |[],[],_=>rfl
 |none::r,none::s,h=>by rw[Yk r s h]
 |some a::r,some b::s,h=>by simp only[Yl,mF]at h;rw[zwE a b h.1,Yk r s h.2]
 |[],none::_,h=>by cases h
 |[],some _::_,h=>by cases h
 |none::_,[],h=>by cases h
 |some _::_,[],h=>by cases h
 |none::_,some _::_,h=>by cases h
 |some _::_,none::_,h=>by cases h
def zwS(h:Heap):Option Out->Option Out
 |some o=>cond (Yl o.h h) (some o) none
 |none=>none
theorem zez{h:Heap}{x:Option Out}{o:Out}(e:zwS h x=some o):x=some o/\o.h=h:=by
 cases x with
 |none=>cases e
 |some p=>
  have e:cond (Yl p.h h) (some p) none=some o:=e;cases hs:Yl p.h h with
  |false=>rw[hs]at e;cases e
  |true=>rw[hs]at e;cases e;exact⟨rfl,Yk _ _ hs⟩
def zDq(F:FuncId->List AV->Heap->Option Out)(g:FuncId):Con:=Con6.c ⟨g,List AV×Heap,Out,fun a h=>some (a,h),fun x=>F g x.1 x.2,fun _ o=>o⟩
def zDp(F:FuncId->List AV->Heap->Option Out)(g:FuncId):Con:=Con6.c ⟨g,List AV×Heap,Out,fun a h=>some (a,h),fun x=>zwS x.2 (F g x.1 x.2),fun _ o=>o⟩
theorem zqG(F:FuncId->List AV->Heap->Option Out)(g:FuncId):QuietC (zDp F g):=fun j h x r H B=>by have I:(j,h)=x:=Option.some.inj H;subst I;exact (zez B).2
section
def zdv(a b:St):Bool:=Yl a.h b.h&&(a.s.map Prod.fst++b.s.map Prod.fst).all fun t=>zev (get a.s t) (get b.s t)
theorem zmx:∀{s:Slots}{t:Nat},t∉s.map Prod.fst->get s t=.undef
 |[],_,_=>rfl
 |(x,v)::r,t,h=>by
  simp only[uAh,nB,not_or]at h;have j:Nat.beq x t=false:=by
   cases j:Nat.beq x t with
   |false=>rfl
   |true=>exact absurd (mE j).symm h.1
  simp only[get,j];exact zmx h.2
theorem zuF{a b:St}(h:zdv a b=true):Eqv a b:=by
 unfold zdv at h;rw[mF,mT]at h;refine⟨fun t=>?_,Yk _ _ h.1⟩;by_cases j:t∈a.s.map Prod.fst++b.s.map Prod.fst
 ·exact QK _ _ (h.2 t j)
 ·rw[mU,not_or]at j;rw[zmx j.1,zmx j.2]
def rmA(i:Nat)(j:List (Oper×Nat)):List (Oper×Nat):=j.filter fun x=>!Nat.beq x.2 i
theorem zmf{i:Nat}{j:List (Oper×Nat)}{x:Oper×Nat}:x∈rmA i j↔x∈j/\x.2≠i:=by
 unfold rmA;rw[nP];refine and_congr_right fun _=>?_
 cases hb:Nat.beq x.2 i with
 |true=>exact⟨fun h=>(by cases h),fun h=>absurd (mE hb) h⟩
 |false=>exact⟨fun _ e=>(by rw[e,Nat.beq_refl]at hb;cases hb),fun _=>rfl⟩
def candsA(B:List (List Nat))(j:List (Oper×Nat)):List (Oper×Nat):=j.filter fun x=>j.all fun y=>!memN y.2 (B[x.2]?.getD [])
def zyg(B:List (List Nat))(H:List Nat)(j:Nat):Bool:=H.all fun p=>!memN j (B[p]?.getD [])
def zvy{R:Type}(E:Env)(all:List Oper)(base:Nat):List (Oper×Nat)->St->(St->Option R)->Option R
 |[],st,k=>k st
 |(o,j)::r,st,k=>match zmi (fpW E all st (nidOf all base j) o)with
  |false=>none
  |true=>match zx all o st with
   |some true=>opK E true (nidOf all base j) o.op st fun v _=>zvy E all base r ⟨putO o.dst v st.s,st.h⟩ k
   |some false=>zvy E all base r ⟨putO o.dst (.tup []) st.s,st.h⟩ k
   |none=>none
def zdt(E:Env)(all:List Oper)(base:Nat)(B:List (List Nat))(fs H:List (Oper×Nat))(j:List Nat)(st:St):Option St:=zvy E all base (fs.filter fun f=>zqj B H f.2&&zBC B j.head? f.2) st fun st=>zfs E all base (fs.filter fun f=>zqj B H f.2&&(zyg B j f.2&&!zBC B j.head? f.2)) st (some st)
def zCN{α:Type}(f:α->Option St):List α->Option St
 |[]=>none
 |x::r=>match f x with
  |none=>none
  |some s=>cond (r.all fun y=>match f y with
   |some t=>zdv t s
   |none=>false) (some s) none
def evH(E:Env)(all:List Oper)(base:Nat)(B:List (List Nat))(fs:List (Oper×Nat)):Nat->List (Oper×Nat)->List Nat->St->Option St
 |_n,[],pl,st=>zdt E all base B fs [] pl st
 |0,_::_,_,_=>none
 |n+1,a::j,pl,st=>match zdt E all base B fs (a::j) pl st with
  |none=>none
  |some cs=>zCN (fun x=>match zmP E all base x.1 x.2 cs some with
   |some st'=>evH E all base B fs n (rmA x.2 (a::j)) (x.2::pl) st'
   |none=>none) (candsA B (a::j))
def zlU(n:Nat)(ops:List Oper)(B:List (List Nat))(A:List Nat):Bool:=
 ops.zipIdx.all fun(o,i)=>
  ((Vc.edgesOf o).all fun e=>Nat.blt e i)&&
  (match o.dst with
   |some d=>Nat.blt d n&&(match Vc.wrFrom ops 0 d with
    |some j=>Nat.beq j i
    |none=>false)
   |none=>true)&&
  ((o.looksAt ops.toArray).all fun t=>match Vc.wrFrom ops 0 t with
   |some j=>memN j (B[i]?.getD [])||((match ops[j]? with
    |some _=>memN j A
    |none=>false)&&(Nat.beq j i||memN i (B[j]?.getD [])))
   |none=>true)
def zCM(ops:List Oper)(B:List (List Nat)):List Nat:=(List.range ops.length).filter fun i=>match ops[i]? with
 |some o=>isAnch o.op||(match o.dst with
  |some d=>ops.zipIdx.any fun x=>memN d (x.1.looksAt ops.toArray)&&!memN i (B[x.2]?.getD [])&&!Nat.beq x.2 i
  |none=>false)
 |none=>false
def zmO(E:Env)(ops:List Oper)(st:St):Option St:=
 let B:=Vc.beforeOf true ops;let A:=zCM ops B
 match zlU E.n ops B A with
 |true=>evH E ops st.h.length B (ops.zipIdx.filter fun x=>!memN x.2 A) (ops.zipIdx.length) (ops.zipIdx.filter fun x=>memN x.2 A) [] ⟨st.s,wide st.h (rsvAll ops)⟩
 |false=>none
section
variable {E : Env} {ops : List Oper} {A : List Nat} {base : Nat}
def zgQ(E:Env)(ops:List Oper)(A:List Nat)(base:Nat)(H:List (Oper×Nat))(B:List Nat)(st cs:St):Prop:=cs.h=st.h/\(∀t,(∀j o,ops[j]? =some o->memN j A=false->(∀p,B.head? =some p->Anc ops j p)->o.dst≠some t)->get cs.s t=get st.s t)/\(∀j o,ops[j]? =some o->memN j A=false->(∀x∈H,¬Anc ops j x.2)->(∀p∈B,¬Anc ops p j)->CkF E ops base j o cs)
def GoodT(E:Env)(ops:List Oper)(A:List Nat)(base:Nat):Nat->List (Oper×Nat)->List Nat->St->St->Prop
 |0,j,_,cs,fin=>j=[]/\Eqv cs fin
 |n+1,j,pl,cs,fin=>(j=[]->Eqv cs fin)/\∀x∈candsA (beforeOf true ops) j,∃v D hh,(∀st':St,st'.h=cs.h->(∀t∈x.1.looksAt ops.toArray,get st'.s t=get cs.s t)->(zx ops x.1 st'=some true/\opK E (zde x.1.op) (nidOf ops base x.2) x.1.op st' (fun v s=>some (v,s))=some (v,⟨(scrub D st').s,hh⟩))\/(zx ops x.1 st'=some false/\v=.tup []/\D=[]/\hh=st'.h))/\∃B,zgQ E ops A base (rmA x.2 j) (x.2::pl) ⟨putO x.1.dst v (scrub D cs).s,hh⟩ B/\GoodT E ops A base n (rmA x.2 j) (x.2::pl) B fin
theorem GoodT.eqv:∀{n:Nat}{I:List (Oper×Nat)}{H:List Nat}{cs fin j:St},GoodT E ops A base n I H cs fin->Eqv fin j->GoodT E ops A base n I H cs j
 |0,_,_,_,_,_,h,e=>⟨h.1,h.2.trans e⟩
 |n+1,_,_,_,_,_,h,e=>⟨fun O=>(h.1 O).trans e,fun x Y=>by obtain⟨v,D,hh,J,B,U,S⟩:=h.2 x Y;exact⟨v,D,hh,J,B,U,GoodT.eqv S e⟩⟩
theorem GoodT.fin:∀{n:Nat}{j:List Nat}{cs fin:St},GoodT E ops A base n [] j cs fin->Eqv cs fin
 |0,_,_,_,h=>h.2
 |_+1,_,_,_,h=>h.1 rfl
theorem GoodT.step{n:Nat}{B:List (Oper×Nat)}{I:List Nat}{cs fin:St}{o:Oper}{i:Nat}(h:GoodT E ops A base n B I cs fin)(J:(o,i)∈candsA (beforeOf true ops) B):
  ∃U v D hh,(∀st':St,st'.h=cs.h->(∀t∈o.looksAt ops.toArray,get st'.s t=get cs.s t)->
    (zx ops o st'=some true/\opK E (zde o.op) (nidOf ops base i) o.op st' (fun v s=>some (v,s))=some (v,⟨(scrub D st').s,hh⟩))\/(zx ops o st'=some false/\v=.tup []/\D=[]/\hh=st'.h))/\
   ∃j,zgQ E ops A base (rmA i B) (i::I) ⟨putO o.dst v (scrub D cs).s,hh⟩ j/\GoodT E ops A base U (rmA i B) (i::I) j fin:=by
 cases n with
 |zero=>exfalso;have H:=h.1;subst H;cases J
 |succ n=>obtain⟨v,D,hh,H,j,S,O⟩:=h.2 (o,i) J;exact⟨n,v,D,hh,H,j,S,O⟩
theorem zjD{α:Type}:∀(l:List α)(n:Nat),(l.zipIdx n).Pairwise (fun a b=>a.2<b.2)/\∀x∈l.zipIdx n,n<=x.2
 |[],_=>⟨sI,sI⟩
 |a::l,n=>by
  obtain⟨H,B⟩:=zjD l (n+1);rw[List.zipIdx_cons];refine⟨uAL.2 ⟨fun b I=>B b I,H⟩,fun x j=>?_⟩;rcases nB.1 j with rfl|j
  ·exact mH _
  ·exact Nat.le_of_succ_le (B x j)
theorem zkx:∀{fl:List (Oper×Nat)}{st:St}{T:Type}{k:St->Option T}{r:T},(fl.Pairwise fun a b=>∀d,b.1.dst=some d->d∉a.1.looksAt ops.toArray/\a.1.dst≠some d)->
  (∀f∈fl,∀d,f.1.dst=some d->d∉f.1.looksAt ops.toArray)->zvy E ops base fl st k=some r->
  ∃st':St,k st'=some r/\st'.h=st.h/\(∀t,(∀f∈fl,f.1.dst≠some t)->get st'.s t=get st.s t)/\∀f∈fl,CkF E ops base f.2 f.1 st'
 |[],st,_,_,_,_,_,h=>⟨st,h,rfl,fun _ _=>rfl,fun f B=>by cases B⟩
 |(o,j)::fl,st,T,k,r,hp,hs,h=>by
  simp only[zvy]at h;obtain⟨S,hp2⟩:=uAL.1 hp;have hs2:∀f∈fl,∀d,f.1.dst=some d->d∉f.1.looksAt ops.toArray:=fun f B=>hs f (nE _ B)
  split at h
  ·cases h
  ·rename_i H;have go:∀{v:AV},zvy E ops base fl ⟨putO o.dst v st.s,st.h⟩ k=some r->((zx ops o st=some true/\Loc E (nidOf ops base j) o.op st v [])\/(zx ops o st=some false/\v=.tup []))->
     ∃st':St,k st'=some r/\st'.h=st.h/\(∀t,(∀f∈(o,j)::fl,f.1.dst≠some t)->get st'.s t=get st.s t)/\∀f∈(o,j)::fl,CkF E ops base f.2 f.1 st':=by
    intro v h hc;obtain⟨st',Y,O,h3,h4⟩:=zkx hp2 hs2 h;have look:∀t∈o.looksAt ops.toArray,get st'.s t=get st.s t:=fun t U=>(h3 t fun f B J=>(S f B t J).1 U).trans (jQ fun J=>hs (o,j) nR t J U)
    refine⟨st',Y,O,fun t U=>(h3 t (fun f B=>U f (nE _ B))).trans (jQ (U (o,j) nR)),fun f B=>?_⟩;rcases nB.1 B with rfl|B
    ·refine⟨v,fun d J=>?_,?_⟩
     ·rw[h3 d fun f B Z=>(S f B d Z).2 J];show get (putO o.dst v st.s) d=v;rw[show o.dst=some d from J];show get (put d v st.s) d=v;rw[js,if_pos rfl]
     ·rcases hc with⟨I,hl⟩|⟨I,hv⟩
      ·exact .inl ⟨(zu look).trans I,hl.move (yc look) (fun _=>O) (fun _ _ _=>by rw[O])⟩
      ·exact .inr ⟨(zu look).trans I,hv⟩
    ·exact h4 f B
   split at h
   ·rename_i I;obtain⟨v,u,Y,O⟩:=WO h;have hu:u=[]:=by
     unfold zmi at H;rw[mF,nO,Xb I]at H;refine O.2.1 (jh H.1) ?_;rcases H.2 with h|h
     ·exact .inl (by simpa using h)
     ·exact .inr (YZ h)
    subst hu;exact go Y (.inl ⟨I,O⟩)
   ·rename_i I;exact go h (.inr ⟨I,rfl⟩)
   ·cases h
def zza(ops:List Oper)(A:List Nat):Prop:=(∀(i:Nat)(o:Oper)(t j:Nat)(B:Oper),ops[i]? =some o->t∈o.looksAt ops.toArray->ops[j]? =some B->B.dst=some t->(Anc ops i j/\j<i)\/memN j A=true)/\∀(i j:Nat)(H B:Oper)(d:Nat),ops[i]? =some H->ops[j]? =some B->H.dst=some d->B.dst=some d->i=j
theorem K7{fs az:List (Oper×Nat)}{U:List Nat}{st s':St}(hL:zza ops A)(hf:fs=ops.zipIdx.filter fun x=>!memN x.2 A)(h:zdt E ops base (beforeOf true ops) fs az U st=some s'):zgQ E ops A base az U st s':=by
 unfold zdt at h;have mem:∀{p:Oper×Nat->Bool}{f:Oper×Nat},f∈fs.filter p->ops[f.2]? =some f.1/\memN f.2 A=false/\p f=true:=fun{p f} B=>by rw[nP]at B;obtain⟨m1,m2⟩:=B;rw[hf,nP]at m1;exact⟨uAy.1 m1.1,by simpa using m1.2,m2⟩
 have pw:∀{p:Oper×Nat->Bool},(fs.filter p).Pairwise fun a b=>∀d,b.1.dst=some d->d∉a.1.looksAt ops.toArray/\a.1.dst≠some d:=fun{p}=>by
  have h0:(fs.filter p).Pairwise fun a b=>a.2<b.2:=by rw[hf];exact ((zjD ops 0).1.filter _).filter _
  refine List.Pairwise.imp_of_mem (fun{a b} ha O hlt d Y=>?_) h0;obtain⟨I,_,_⟩:=mem ha;obtain⟨b1,b2,_⟩:=mem O;refine⟨fun S=>?_,fun ha2=>?_⟩
  ·rcases hL.1 a.2 a.1 d b.2 b.1 I S b1 Y with⟨_,h⟩|h
   ·omega
   ·rw[b2]at h;cases h
  ·have:=hL.2 a.2 b.2 a.1 b.1 d I b1 ha2 Y;omega
 obtain⟨cs,h1,h2,h3,h6⟩:=zkx pw (fun f B d Y S=>by
  obtain⟨I,a2,_⟩:=mem B;rcases hL.1 f.2 f.1 d f.2 f.1 I S I Y with⟨_,h⟩|h
  ·omega
  ·rw[a2]at h;cases h) h
 obtain⟨h4,h5⟩:=zec h1;cases h4;refine⟨h2,fun t S=>h3 t (fun f B=>?_),fun j o hj ha hx hp=>?_⟩
 ·obtain⟨m1,m2,m3⟩:=mem B;rw[mF]at m3;refine S f.2 f.1 m1 m2 fun p hp=>?_
  have m4:=m3.2;rw[hp]at m4;exact zV (zG.1 m4)
 ·have H:(o,j)∈fs:=by rw[hf,nP];exact⟨uAy.2 hj,by simp[ha]⟩
  have J:zqj (beforeOf true ops) az j=true:=by
   unfold zqj;rw[mT];intro x Z;cases O:memN x.2 ((beforeOf true ops)[j]?.getD [])with
   |false=>rfl
   |true=>exact absurd (zV (zG.1 O)) (hx x Z)
  have hfr:zyg (beforeOf true ops) U j=true:=by
   unfold zyg;rw[mT];intro p hpm;cases O:memN j ((beforeOf true ops)[p]?.getD [])with
   |false=>rfl
   |true=>exact absurd (zV (zG.1 O)) (hp p hpm)
  cases hn:zBC (beforeOf true ops) U.head? j with
  |true=>exact h6 (o,j) (nP.2 ⟨H,by rw[J,hn];rfl⟩)
  |false=>exact h5 (o,j) (nP.2 ⟨H,by rw[J,hfr,hn];rfl⟩)
theorem zsx{α:Type}{f:α->Option St}{l:List α}{s:St}(h:zCN f l=some s):∀x∈l,∃t,f x=some t/\Eqv t s:=by
 cases l with
 |nil=>cases h
 |cons a r=>
  have h:(match f a with
   |none=>none
   |some s=>cond (r.all fun y=>match f y with
    |some t=>zdv t s
    |none=>false) (some s) none)=some s:=h
  cases hs:f a with
  |none=>rw[hs]at h;cases h
  |some s1=>
   rw[hs]at h;have h:cond (r.all fun y=>match f y with
    |some t=>zdv t s1
    |none=>false) (some s1) none=some s:=h
   cases hb:(r.all fun y=>match f y with
    |some t=>zdv t s1
    |none=>false)with
   |false=>rw[hb]at h;cases h
   |true=>
    rw[hb]at h;cases h;intro x B;rcases nB.1 B with rfl|B
    ·exact⟨s,hs,Eqv.refl _⟩
    ·have j:=mT.1 hb x B;split at j
     ·rename_i t H;exact⟨t,H,zuF j⟩
     ·cases j
theorem zyq{fs:List (Oper×Nat)}(U:zza ops A)(J:fs=ops.zipIdx.filter fun x=>!memN x.2 A):∀{n:Nat}{j:List (Oper×Nat)}{B:List Nat}{st fin:St},evH E ops base (beforeOf true ops) fs n j B st=some fin->
  ∃cs,zgQ E ops A base j B st cs/\GoodT E ops A base n j B cs fin:=by
 intro n;induction n with
 |zero=>
  intro j B st fin h;cases j with
  |nil=>
   have h:zdt E ops base (beforeOf true ops) fs [] B st=some fin:=by unfold evH at h;exact h
   exact⟨fin,K7 U J h,rfl,Eqv.refl _⟩
  |cons a j=>unfold evH at h;cases h
 |succ n ih=>
  intro j B st fin h;cases j with
  |nil=>
   have h:zdt E ops base (beforeOf true ops) fs [] B st=some fin:=by unfold evH at h;exact h
   exact⟨fin,K7 U J h,fun _=>Eqv.refl _,fun x O=>by cases O⟩
  |cons a j=>
   unfold evH at h;split at h
   ·cases h
   ·rename_i cs S;refine⟨cs,K7 U J S,fun Z=>(by cases Z),fun x O=>?_⟩;obtain⟨t,H,h2⟩:=zsx h x O;split at H
    ·rename_i st' Y;obtain⟨v,D,hh,h3,h4⟩:=zkz Y;cases h3;obtain⟨I,h5,h6⟩:=ih H;exact⟨v,D,hh,h4,I,h5,h6.eqv h2⟩
    ·cases H
variable {GP : Ro -> Prop} {c : Base}
structure AtH(E:Env)(GP:Ro->Prop)(c:Base)(ops:List Oper)(A:List Nat)(base:Nat)(az:List (Oper×Nat))(pl:List Nat)(fin cs:St)(listed:Array Bool)(s:St)(R:Ro)(G:List Res)(a:Act)(w:World):Prop where
 sz:listed.size=ops.length
 cl:∀i,listed.getD i false=true->∀o,ops[i]? =some o->∀e∈edgesOf o,listed.getD e false=true
 fit:Fit c E.n R G s a w
 gp:GP R
 len:s.h.length=base+rsvAll ops
 free:∀i o,ops[i]? =some o->listed.getD i false=false->FreeR s.h (nidOf ops base i) (rsv o)
 hp:s.h=cs.h
 sl:∀t,(∀j o,ops[j]? =some o->o.dst=some t->memN j A=false->listed.getD j false=true)->get s.s t=get cs.s t
 an:∀i o,ops[i]? =some o->memN i A=true->((o,i)∈az↔listed.getD i false=false)
 az2:∀f∈az,ops[f.2]? =some f.1/\memN f.2 A=true
 pal:∀p∈pl,listed.getD p false=true
 ck:∀j o,ops[j]? =some o->memN j A=false->(∀x∈az,¬Anc ops j x.2)->(∀p∈pl,¬Anc ops p j)->CkF E ops base j o cs
 kont:∃n,GoodT E ops A base n az pl cs fin
theorem zE8(hΓ:∀C∈E.Γ,SoundC E.P GP C)(hgl:∀R,GP R->GlobOK E.gl R)(hst:Stays GP){ops:List Oper}{A:List Nat}{T:Type}{r:T}{k:St->Option T}{fin:St}(hfin:k fin=some r){Q:Exit->Act->World->Prop}{base:Nat}(hS:StatOk E.n 0 ops)(hcm:c.m<=base)
  (hlook:∀i o t j J,ops[i]? =some o->t∈o.looksAt ops.toArray->ops[j]? =some J->J.dst=some t->Anc ops i j\/memN j A=true)
  (hK:∀st' R' G' a' w',k st'=some r->Fit c E.n R' G' st' a' w'->GP R'->Q .normal a' w'):
  ∀(O:Nat)(az:List (Oper×Nat))(pl:List Nat)(cs:St)(B:Array Bool)(s:St)(R:Ro)(G:List Res)(a:Act)(w:World),AtH E GP c ops A base az pl fin cs B s R G a w->(zhm ops B).length<=O->wpAny E.P .any ops.toArray Q O B a w:=by
 have hE:∀(j k:Nat)(J ok:Oper)(d:Nat),ops[j]? =some J->ops[k]? =some ok->J.dst=some d->ok.dst=some d->j=k:=by intro j k J ok d H hk hd hd';have h1:=(hS.lt j J d H hd).2;have h2:=(hS.lt k ok d hk hd').2;rw[h1]at h2;exact Option.some.inj h2
 have hend:∀(az:List (Oper×Nat))(pl:List Nat)(cs:St)(B:Array Bool)(s:St)(R:Ro)(G:List Res)(a:Act)(w:World),AtH E GP c ops A base az pl fin cs B s R G a w->Region.ready .any ops.toArray B=[]->Q .normal a w:=by
  intro az pl cs B s R G a w I hr;have hall:∀j,j<ops.length->B.getD j false=true:=by
   intro j;induction j using Nat.strongRecOn with
   |_ j ih=>
    intro H;cases hb:B.getD j false with
    |true=>rfl
    |false=>
     exfalso;have:j∈Region.ready .any ops.toArray B:=by
      rw[mem_ready];refine⟨?_,ops[j],by simp[H],fun e Z hbind=>?_⟩
      ·have hlt:j<B.size:=by rw[I.sz];exact H
       simp[hlt]at hb⊢;exact hb
      ·have hlt:=hS.edge j ops[j] (by simp[H]) e.on (by
        unfold edgesOf;rw[uAs];exact⟨e,by simpa using Z,by simp[hbind]⟩)
       exact ih e.on hlt oM
     rw[hr]at this;cases this
  have has:az=[]:=by
   cases az with
   |nil=>rfl
   |cons x l=>exfalso;obtain⟨h1,h2⟩:=I.az2 x nR;have h3:=(I.an x.2 x.1 h1 h2).1 nR;rw[hall x.2 (mG.1 h1).1]at h3;cases h3
  obtain⟨m,hk⟩:=I.kont;subst has;have Z:Eqv cs fin:=hk.fin;have hsl:∀t,get s.s t=get fin.s t:=fun t=>(I.sl t fun j o H _ _=>hall j (mG.1 H).1).trans (Z.1 t)
  have hhp:s.h=fin.h:=I.hp.trans Z.2;have F':Fit c E.n R G fin a w:=⟨by rw[<-hhp];exact I.fit.wrel,by rw[<-hhp];exact I.fit.since,fun t=>by rw[<-hsl t,<-hhp];exact I.fit.slots t,I.fit.defers,I.fit.size⟩
  exact hK fin R G a w hfin F' I.gp
 intro O;induction O with
 |zero=>
  intro az pl cs B s R G a w I hfu;have hr:Region.ready .any ops.toArray B=[]:=by
   rcases hc:Region.ready .any ops.toArray B with _|⟨i,l⟩
   ·rfl
   ·exfalso;have hi:i∈Region.ready .any ops.toArray B:=by rw[hc];simp
    rw[mem_ready]at hi;obtain⟨hun,o,ho,_⟩:=hi;have ho':ops[i]? =some o:=by simpa using ho
    have hilt:i<ops.length:=(mG.1 ho').1;have hil:i<B.size:=by rw[I.sz];exact hilt
    have hSi:B.getD i false=false:=by simp[hil]at hun⊢;exact hun
    have:i∈zhm ops B:=by unfold zhm;rw[nP];exact⟨by simpa using hilt,by rw[hSi];rfl⟩
    rw[nF.1 (by omega:(zhm ops B).length=0)]at this;cases this
  exact⟨hr,hend az pl cs B s R G a w I hr⟩
 |succ O ih=>
  intro az pl cs B s R G a w I hfu;refine⟨fun hr=>hend az pl cs B s R G a w I hr,fun i hi=>?_⟩;rw[mem_ready]at hi;obtain⟨hun,o,ho,hall⟩:=hi;have ho':ops[i]? =some o:=by simpa using ho
  have hilt:i<ops.length:=(mG.1 ho').1;have hil:i<B.size:=by rw[I.sz];exact hilt
  have hSi:B.getD i false=false:=by simp[hil]at hun⊢;exact hun
  have hdir:∀e∈edgesOf o,B.getD e false=true:=by
   intro e Z;unfold edgesOf at Z;rw[uAs]at Z;obtain⟨x,hx,hxe⟩:=Z;split at hxe
   ·rename_i hb;cases hxe;exact hall x (by simpa using hx) hb
   ·cases hxe
  have hanc:∀k j,Anc ops k j->B.getD k false=true->B.getD j false=true:=by
   intro k j h;induction h with
   |one h Z=>intro hk;exact I.cl _ hk _ h _ Z
   |more h Z _ ih=>intro hk;exact ih (I.cl _ hk _ h _ Z)
  have hanci:∀j,Anc ops i j->B.getD j false=true:=by
   intro j h;cases h with
   |one h Z=>rw[ho']at h;cases h;exact hdir _ Z
   |more h Z h'=>rw[ho']at h;cases h;exact hanc _ _ h' (hdir _ Z)
  have S:∀j,(B.setIfInBounds i true).getD j false=(B.getD j false||Nat.beq j i):=by
   intro j;by_cases Y:j=i
   ·subst Y;simp[hil]
   ·have hne:¬i=j:=fun h=>Y h.symm
    have hb:Nat.beq j i=false:=by
     cases hb:Nat.beq j i with
     |false=>rfl
     |true=>exact absurd (mE hb) Y
    simp[hb,Array.getElem?_setIfInBounds_ne hne]
  have U:∀j,j≠i->(B.setIfInBounds i true).getD j false=B.getD j false:=by
   intro j Y;have hb:Nat.beq j i=false:=by
    cases hb:Nat.beq j i with
    |false=>rfl
    |true=>exact absurd (mE hb) Y
   rw[S,hb,Bool.or_false]
  have hseti:(B.setIfInBounds i true).getD i false=true:=by rw[S,Nat.beq_refl,Bool.or_true]
  have hfu':(zhm ops (B.setIfInBounds i true)).length<=O:=by
   obtain⟨l1,l2,g1,g2,_⟩:=Zo (p:=fun j=>!B.getD j false) (q:=fun j=>!(B.setIfInBounds i true).getD j false) (l:=List.range ops.length) uAP (by simpa using hilt) (by simp only[hSi];rfl)
    (fun j=>by rw[S];cases B.getD j false<;>cases Nat.beq j i<;>rfl)
   unfold zhm at hfu⊢;rw[g1]at hfu;rw[g2];simp at hfu⊢;omega
  have hcl':∀j,(B.setIfInBounds i true).getD j false=true->∀J,ops[j]? =some J->∀e∈edgesOf J,(B.setIfInBounds i true).getD e false=true:=by
   intro j H J hoj e Z;rw[S]at H⊢;simp only[nO]at H⊢;rcases H with H|H
   ·exact .inl (I.cl j H J hoj e Z)
   ·have:=mE H;subst this;rw[ho']at hoj;cases hoj;exact .inl (hdir e Z)
  have hfree':∀{h':Heap},YW (nidOf ops base i) (rsv o) s.h h'->∀j J,ops[j]? =some J->(B.setIfInBounds i true).getD j false=false->FreeR h' (nidOf ops base j) (rsv J):=by
   intro h' hno j J hoj H x hx1 hx2;rw[S]at H;simp only[Bool.or_eq_false_iff]at H;have hne:j≠i:=fun e=>by rw[e]at H;simp at H
   refine hno x (fun hh=>?_) (I.free j J hoj H.1 x hx1 hx2);rcases Nat.lt_or_gt_of_ne hne with hlt|hlt
   ·have:=jE (base:=base) hoj ho' hlt;omega
   ·have:=jE (base:=base) ho' hoj hlt;omega
  have hops:∀t∈o.looksAt ops.toArray,get s.s t=get cs.s t:=fun t ht=>I.sl t fun j J H hd hf=>by
   rcases hlook i o t j J ho' ht H hd with h|h
   ·exact hanci j h
   ·rw[hf]at h;cases h
  have hdst:zcX E.n o.dst=true:=by
   cases hd:o.dst with
   |none=>rfl
   |some d=>exact (hS.lt i o d ho' hd).1
  unfold wpOp;have hoA:ops.toArray[i]? =some o:=by simpa using ho'
  simp only[hoA];cases ha:memN i A with
  |false=>
   obtain⟨v,hv,hc⟩:=I.ck i o ho' ha (fun x hx hA=>by
    obtain⟨h1,h2⟩:=I.az2 x hx;have h3:=(I.an x.2 x.1 h1 h2).1 hx;rw[hanci x.2 hA]at h3;cases h3) (fun p hp hA=>by
    have:=hanc p i hA (I.pal p hp);rw[hSi]at this;cases this)
   have next:∀(R':Ro)(G':List Res)(a':Act)(w':World),Fit c E.n R' G' ⟨putO o.dst v s.s,s.h⟩ a' w'->GP R'->wpAny E.P .any ops.toArray Q O (B.setIfInBounds i true) a' w':=by
    intro R' G' a' w' F' hGP';refine ih az pl cs (B.setIfInBounds i true) ⟨putO o.dst v s.s,s.h⟩ R' G' a' w' ⟨by simpa using I.sz,hcl',F',hGP',I.len,hfree' (fun _ _ h=>h),I.hp,fun t ht=>?_,fun j J H haj=>?_,I.az2,fun p hp=>?_,I.ck,I.kont⟩ hfu'
    ·by_cases hd:o.dst=some t
     ·show get (putO o.dst v s.s) t=_;rw[hd];show get (put t v s.s) t=_;rw[js,if_pos rfl,hv t hd]
     ·show get (putO o.dst v s.s) t=_;rw[jQ hd];refine I.sl t fun j J H hdj hfj=>?_
      have:=ht j J H hdj hfj;rwa [U j (fun e=>by subst e;rw[ho']at H;cases H;exact hd hdj)]at this
    ·rw[U j (fun e=>by subst e;rw[ho']at H;cases H;rw[ha]at haj;cases haj)];exact I.an j J H haj
    ·rw[S,I.pal p hp];rfl
   rcases hc with⟨hw,hloc⟩|⟨hw,rfl⟩
   ·have hw':=(zu hops).trans hw;have hloc':Loc E (nidOf ops base i) o.op s v []:=hloc.move (yc hops) (fun _=>I.hp) (fun _ _ _=>by rw[I.hp]);rw[jV I.fit hS hw',if_pos rfl];have heff:=hloc'.eff (AV×St) (fun v s=>some (v,s));refine .inl (Oper.wp_mono ?_ (Qs hΓ hgl I.fit I.gp (show c.m<=nidOf ops base i by unfold nidOf;omega) (I.free i o ho' hSi) (by rw[I.len];exact qM ho') heff));rintro a' w' ⟨v',st',R',G',V,h1,rfl,h2,h3,h4,h5,h6⟩;simp only[Option.some.injEq,Prod.mk.injEq]at h1;obtain⟨rfl,rfl⟩:=h1;exact next R' G' _ w' (h2.put hdst h3) (hst R R' h6 I.gp)
   ·have hw':=(zu hops).trans hw;rw[jV I.fit hS hw'];simp only[nA,if_false];exact next R G _ w (I.fit.put (v:=.tup []) (V:=undef) hdst ⟨[],rfl,rfl⟩) I.gp
  |true=>
   have hmem:=(I.an i o ho' ha).2 hSi;have hcand:(o,i)∈candsA (beforeOf true ops) az:=by
    unfold candsA;rw[nP];refine⟨hmem,mT.2 fun y hy=>?_⟩;show(!memN y.2 ((beforeOf true ops)[i]?.getD []))=true;cases hb:memN y.2 ((beforeOf true ops)[i]?.getD [])with
    |false=>rfl
    |true=>exfalso;have h1:=hanci y.2 (zV (zG.1 hb));obtain⟨h2,h3⟩:=I.az2 y hy;rw[(I.an y.2 y.1 h2 h3).1 hy]at h1;cases h1
   obtain⟨m,hk⟩:=I.kont;obtain⟨m',v,D,hh,heffs,cs',⟨q1,q2,q3⟩,q4⟩:=hk.step hcand;have next:∀(R':Ro)(G':List Res)(a':Act)(w':World),Fit c E.n R' G' ⟨putO o.dst v (scrub D s).s,hh⟩ a' w'->GP R'->YW (nidOf ops base i) (rsv o) s.h hh->hh.length=s.h.length->wpAny E.P .any ops.toArray Q O (B.setIfInBounds i true) a' w':=by
    intro R' G' a' w' F' hGP' hno hlen';refine ih (rmA i az) (i::pl) cs' (B.setIfInBounds i true) ⟨putO o.dst v (scrub D s).s,hh⟩ R' G' a' w' ⟨by simpa using I.sz,hcl',F',hGP',hlen'.trans I.len,hfree' hno,q1.symm,fun t ht=>?_,fun j J H haj=>?_,fun f hf=>I.az2 f (zmf.1 hf).1,fun p hp=>?_,q3,⟨m',q4⟩⟩ hfu'
    ·rw[q2 t fun j J H hfj hpj hdj=>?_]
     ·by_cases hd:o.dst=some t
      ·show get (putO o.dst v (scrub D s).s) t=get (putO o.dst v (scrub D cs).s) t;rw[hd];show get (put t v _) t=get (put t v _) t;rw[js,js,if_pos rfl,if_pos rfl]
      ·show get (putO o.dst v (scrub D s).s) t=get (putO o.dst v (scrub D cs).s) t;rw[jQ hd,jQ hd];refine zib D (I.sl t fun j J H hdj hfj=>?_);have:=ht j J H hdj hfj;rwa [U j (fun e=>by subst e;rw[ho']at H;cases H;exact hd hdj)]at this
     ·have h1:=ht j J H hdj hfj;have Y:j≠i:=fun e=>by subst e;rw[ho']at H;cases H;rw[ha]at hfj;cases hfj
      rw[U j Y]at h1;have h2:=hanc j i (hpj i rfl) h1;rw[hSi]at h2;cases h2
    ·by_cases Y:j=i
     ·subst Y;rw[ho']at H;cases H;rw[hseti];exact⟨fun h=>absurd rfl (zmf.1 h).2,fun h=>by cases h⟩
     ·rw[U j Y,<-I.an j J H haj,zmf];exact⟨fun h=>h.1,fun h=>⟨h,Y⟩⟩
    ·rcases nB.1 hp with rfl|hp
     ·exact hseti
     ·rw[S,I.pal p hp];rfl
   rcases heffs s I.hp hops with⟨hw,hop⟩|⟨hw,rfl,rfl,rfl⟩
   ·rw[jV I.fit hS hw,if_pos rfl];refine .inl (Oper.wp_mono ?_ (Qs hΓ hgl I.fit I.gp (show c.m<=nidOf ops base i by unfold nidOf;omega) (I.free i o ho' hSi) (by rw[I.len];exact qM ho') hop));rintro a' w' ⟨v',st',R',G',V,h1,rfl,h2,h3,h4,h5,h6⟩;simp only[Option.some.injEq,Prod.mk.injEq]at h1;obtain⟨rfl,rfl⟩:=h1;exact next R' G' _ w' (h2.put hdst h3) (hst R R' h6 I.gp) h4 h5
   ·rw[jV I.fit hS hw];simp only[nA,if_false];exact next R G _ w (I.fit.put (v:=.tup []) (V:=undef) hdst ⟨[],rfl,rfl⟩) I.gp (fun _ _ h=>h) rfl
theorem zre{n:Nat}{ops:List Oper}{A:List Nat}(h:zlU n ops (beforeOf true ops) A=true):StatOk n 0 ops/\
  (∀i o t j I,ops[i]? =some o->t∈o.looksAt ops.toArray->ops[j]? =some I->I.dst=some t->Anc ops i j\/memN j A=true):=by
 unfold zlU at h;have H:∀(i:Nat)(o:Oper)(d:Nat),ops[i]? =some o->o.dst=some d->Nat.blt d n=true/\wrFrom ops 0 d=some i:=by
  intro i o d hi U;have B:=j3 h hi;simp only[mF]at B;obtain⟨⟨B,O⟩,h3⟩:=B;rw[U]at O;simp only[mF]at O;obtain⟨Z,S⟩:=O;refine⟨Z,?_⟩;split at S
  ·rename_i j J;rw[J,mE S]
  ·cases S
 refine⟨⟨fun i o hi e Y=>?_,H,fun _ _ _ _ _ _ _=>.inr (uAm _)⟩,fun i o t j I hi ht J U=>?_⟩
 ·have B:=j3 h hi;simp only[mF]at B;have:=mT.1 B.1.1 e Y;have:e+1<=i:=by simpa[Nat.blt]using this
  omega
 ·have B:=j3 h hi;simp only[mF]at B;have:=mT.1 B.2 t ht;rw[(H j I t J U).2]at this;simp only[J,nO,mF]at this;rcases this with this|⟨this,_⟩
  ·exact .inl (zV (zG.1 this))
  ·exact .inr this
theorem zrP(hm:E.P.follows .mixedOrders=true)(hΓ:∀C∈E.Γ,SoundC E.P GP C)(hgl:∀R,GP R->GlobOK E.gl R)(hst:Stays GP){ops:List Oper}{T:Type}{r:T}{k:St->Option T}{Q:Exit->Act->World->Prop}{st fin:St}{R:Ro}{G:List Res}
  {a:Act} {w:World} (F:Fit c E.n R G st a w) (hGP:GP R) (h:zmO E ops st=some fin) (U:k fin=some r) (hK:∀st' R' G' a' w',k st'=some r->Fit c E.n R' G' st' a' w'->GP R'->Q .normal a' w') {id:Nat}:
  (Code.region id ops.toArray true).wp E.P Q a w:=by
 unfold zmO at h;simp only[]at h;split at h
 ·rename_i J;obtain⟨hS,B⟩:=zre J;obtain⟨G0,F0,H,O⟩:=F.wide (rsvAll ops);have hcm:c.m<=st.h.length:=F.since.many;have hL:zza ops (zCM ops (beforeOf true ops)):=⟨fun i o t j oj hi ht Z S=>(B i o t j oj hi ht Z S).imp (fun h=>⟨h,h.lt hS.edge⟩) (fun h=>h),fun i j oi oj d hi Z S hd'=>by have h1:=(hS.lt i oi d hi S).2;have h2:=(hS.lt j oj d Z hd').2;rw[h1]at h2;exact Option.some.inj h2⟩
  obtain⟨cs,⟨q1,q2,q3⟩,q4⟩:=zyq hL rfl h;have hf:∀j,(Array.replicate ops.toArray.size false).getD j false=false:=by
   intro j;by_cases Y:j<ops.length
   ·simp[Y]
   ·simp[Y]
  refine wp_region_any hm ?_;refine zE8 hΓ hgl hst U hS hcm B hK ops.toArray.size _ [] cs _ ⟨st.s,wide st.h (rsvAll ops)⟩ R G0 a _
   ⟨sI,fun i hi=>?_,F0.keep (Keeps.drawn w _),hGP,O,fun i o hi _ x hx1 hx2=>H x (by unfold nidOf at hx1;omega),q1.symm,fun t ht=>?_,fun i o hi ha=>?_,fun f I=>?_,fun p hp=>(by cases hp),q3,⟨_,q4⟩⟩ ?_
  ·rw[hf]at hi;cases hi
  ·rw[q2 t fun j o Z hfj _ S=>?_];have:=ht j o Z S hfj;rw[hf]at this;cases this
  ·rw[hf,nP];exact⟨fun _=>rfl,fun _=>⟨uAy.2 hi,ha⟩⟩
  ·rw[nP]at I;exact⟨uAy.1 I.1,I.2⟩
  ·have h1:=List.length_filter_le (fun j=>!(Array.replicate ops.toArray.size false).getD j false) (List.range ops.length);have h2:(List.range ops.length).length=ops.toArray.size:=sI
   exact nD h1 (Nat.le_of_eq h2)
 ·cases h
end
end
section
def zaE(m:Nat)(st:St):Option St:=
 let lv:=st.s.map Prod.fst
 match zBA m lv st with
 |some (vs,h)=>some ⟨zkT lv vs,h⟩
 |none=>none
def YI{R:Type}(E:Env)(ops:List Oper)(st:St)(k:St->Option R):Option R:=match Y9 E ops st some with
 |some s=>k s
 |none=>match zmO E ops st with
  |some s=>k s
  |none=>none
def zEs(n:Nat)(ops:List Oper):Bool:=zfI n ops (Vc.beforeOf true ops)||(zlV n ops||(zcm n 2 ops&&za4 2 ops||(zcm n 1 ops&&za4 1 ops||znT (zgH ops 0 ops.length) ops)))
def Xh{R:Type}(E:Env)(ops:List Oper)(st:St)(k:St->Option R):Option R:=match E.N with
 |0=>YI E ops st k
 |_+1=>match zEs E.n ops with
  |true=>Y9 E ops st k
  |false=>YI E ops st k
def evR{R:Type}(E:Env)(m q:Nat):Code->St->Cont R->Option R
 |.skip,st,K=>K.normal st
 |.label _,st,K=>K.normal st
 |.ret,st,K=>K.ret st
 |.exit i,st,K=>K.exits i st
 |.region _ ops H,st,K=>match H with
  |false=>VN E ops.toList st K.normal
  |true=>Xh E ops.toList st K.normal
 |.seq a b,st,K=>evR E m q a st ⟨fun st'=>evR E m q b st' K,K.exits,K.ret⟩
 |.cond c a b,st,K=>match opnd E.gl st.s c with
  |.bool x=>cond x (evR E m q a st K) (evR E m q b st K)
  |_=>none
 |.block i a,st,K=>evR E m q a st (qe i K)
 |.scope a,st,K=>evR E m q a st K
 |.loop a,st,K=>qj (fun j st'=>evR E m q a st' ⟨fun B=>match zaE m B with
  |some s=>j s
  |none=>none,K.exits,K.ret⟩) q st
 |_,_,_=>none
def zuJ(P:Program)(b:Bool)(m:Nat)(j:List ResultVar)(st:St):Option Out:=cond b (zar P m j st) (fin P m j st)
section
variable {P : Program} {c : Base} {n : Nat} {R : Ro} {G : List Res} {st : St} {a : Act} {w : World}
theorem zBn(F:Fit c n R G st a w){fn:Func}{b:Bool}{o:Out}(h:zuJ P b c.m fn.results.toList st=some o):
  ∃V R' G',(results fn a.tmps).run P w=.ok V w/\WRel R' G' o.h w/\Since c R' G' o.h w/\Rel (look G' o.h) R' o.v V:=by
 cases b with
 |true=>obtain⟨V,G',j,H,B,I⟩:=zmE F h;exact⟨V,R,G',j,H,B,I⟩
 |false=>obtain⟨V,R',G',j,H,B,I,_⟩:=zyj F h;exact⟨V,R',G',j,H,B,I⟩
end
section
variable {E : Env} {GP : Ro -> Prop} {T : Type} {r : T} {c : Base} {q : Nat}
theorem zxL{R:Ro}{G:List Res}{st st':St}{a:Act}{w:World}{n:Nat}(F:Fit c n R G st a w)(h:zaE c.m st=some st'):∃G',Fit c n R G' st' a w:=by
 unfold zaE at h;simp only[]at h;split at h
 ·rename_i vs hh j;cases h;exact zl1 F j
 ·cases h
theorem zeS(O:E.P.follows .mixedOrders=true)(U:∀C∈E.Γ,SoundC E.P GP C)(B:∀R,GP R->GlobOK E.gl R)(H:Stays GP){ops:List Oper}{k:St->Option T}{Q:Exit->Act->World->Prop}{st:St}{R:Ro}{G:List Res}
  {a:Act} {w:World} (F:Fit c E.n R G st a w) (j:GP R) (h:YI E ops st k=some r) (S:∀st' R' G' I w',k st'=some r->Fit c E.n R' G' st' I w'->GP R'->Q .normal I w') {id:Nat}:
  (Code.region id ops.toArray true).wp E.P Q a w:=by
 unfold YI at h;split at h
 ·rename_i s J;exact zbx O U B H F j J fun st' R' G' I w' Y h2 Z=>by cases Y;exact S _ R' G' I w' h h2 Z
 ·split at h
  ·rename_i s J;exact zrP O U B H F j J h S
  ·cases h
theorem zpg(I:E.P.follows .mixedOrders=true)(O:∀C∈E.Γ,SoundC E.P GP C)(j:∀R,GP R->GlobOK E.gl R)(H:Stays GP){ops:List Oper}{k:St->Option T}{Q:Exit->Act->World->Prop}{st:St}{R:Ro}{G:List Res}
  {a:Act} {w:World} (F:Fit c E.n R G st a w) (B:GP R) (h:Xh E ops st k=some r) (J:∀st' R' G' S w',k st'=some r->Fit c E.n R' G' st' S w'->GP R'->Q .normal S w') {id:Nat}:
  (Code.region id ops.toArray true).wp E.P Q a w:=by
 unfold Xh at h;split at h
 ·exact zeS I O j H F B h J
 ·split at h
  ·exact zbx I O j H F B h J
  ·exact zeS I O j H F B h J
theorem zyo(hmx:E.P.follows .mixedOrders=true)(hΓ:∀C∈E.Γ,SoundC E.P GP C)(hgl:∀R,GP R->GlobOK E.gl R)(hst:Stays GP):
  ∀(S:Code)(K:Cont T)(Q:Exit->Act->World->Prop)(st:St)(R:Ro)(G:List Res)(a:Act)(w:World),
   KOk c E.n GP r K Q->evR E c.m q S st K=some r->Fit c E.n R G st a w->GP R->S.wp E.P Q a w:=by
 intro S;induction S with
 |skip=>intro K Q st R G a w I h F H;exact wp_skip (I.normal st R G a w h F H)
 |label l=>intro K Q st R G a w I h F H;exact wp_label (I.normal st R G a w h F H)
 |ret=>intro K Q st R G a w I h F H;exact wp_ret (I.ret st R G a w h F H)
 |exit i=>intro K Q st R G a w I h F H;exact wp_exit (I.exits i st R G a w h F H)
 |region id ops draw=>
  intro K Q st R G a w I h F H;simp only[evR]at h;split at h
  ·have:=zeR hΓ hgl hst F H h (Q:=Q) (fun st' R' G' Y w' J U Z=>I.normal st' R' G' Y w' J U Z) (id:=id);simpa using this
  ·have:=zpg hmx hΓ hgl hst F H h (Q:=Q) (fun st' R' G' Y w' J U Z=>I.normal st' R' G' Y w' J U Z) (id:=id);simpa using this
 |scope body ih=>intro K Q st R G a w I h F H;simp only[evR]at h;exact wp_scope_straight (ih K (Exit.noGoto Q) st R G a w ⟨I.normal,I.exits,I.ret⟩ h F H)
 |goto l=>intro K Q st R G a w I h F H;simp only[evR]at h;cases h
 |refuse why=>intro K Q st R G a w I h F H;simp only[evR]at h;cases h
 |rangeFunc f ps asg body ih1 ih2=>intro K Q st R G a w I h F H;simp only[evR]at h;cases h
 |seq x y ihx ihy=>intro K Q st R G a w I h F H;simp only[evR]at h;refine wp_seq ?_;exact ihx ⟨fun st'=>evR E c.m q y st' K,K.exits,K.ret⟩ _ st R G a w ⟨fun st' R' G' Y w' J U Z=>ihy K Q st' R' G' Y w' I J U Z,I.exits,I.ret⟩ h F H
 |cond b x y ihx ihy=>
  intro K Q st R G a w I h F H;simp only[evR]at h;split at h
  ·rename_i t ht;have hb:=Vn (hgl R H) F.slots b;rw[ht]at hb;simp only[Rel]at hb;refine wp_cond hb ?_;cases t
   ·exact ihy K Q st R G a w I h F H
   ·exact ihx K Q st R G a w I h F H
  ·cases h
 |block i x ih=>
  intro K Q st R G a w I h F H;simp only[evR]at h;refine wp_block (ih (qe i K) _ st R G a w ⟨I.normal,fun j st' R' G' Y w' J U Z=>?_,I.ret⟩ h F H);simp only[qe]at J;show(if j=i then Q .normal Y w' else Q (.exit j) Y w');split at J
  ·rename_i hb;rw[if_pos (qT.1 hb)];exact I.normal st' R' G' Y w' J U Z
  ·rename_i hb;rw[if_neg (fun e=>by rw[qT.2 e]at hb;cases hb)];exact I.exits j st' R' G' Y w' J U Z
 |loop x ih=>
  intro K Q st R G a w I h F H;simp only[evR]at h;generalize hB:(fun(again:St->Option T) st'=>evR E c.m q x st' ⟨fun O=>match zaE c.m O with
   |some s=>again s
   |none=>none,K.exits,K.ret⟩)=B at h
  refine KZ (ι:=Nat) id (fun n a w=>∃st R G,qj B n st=some r/\Fit c E.n R G st a w/\GP R) ?_ q ⟨st,R,G,h,F,H⟩;intro n a w ⟨st,R,G,h,F,H⟩;cases n with
  |zero=>cases h
  |succ n=>
   have J:B (qj B n) st=some r:=h;have h':evR E c.m q x st ⟨fun O=>match zaE c.m O with
    |some s=>qj B n s
    |none=>none,K.exits,K.ret⟩=some r:=by
    have U:=congrFun (congrFun hB (qj B n)) st;rw[<-U]at J;exact J
   refine ih ⟨fun O=>match zaE c.m O with
    |some s=>qj B n s
    |none=>none,K.exits,K.ret⟩ _ st R G a w ⟨fun st' R' G' Y w' J U Z=>?_,I.exits,I.ret⟩ h' F H
   simp only[]at J;split at J
   ·rename_i s hs;obtain⟨G2,F2⟩:=zxL U hs;exact⟨n,uAt n,s,R',G2,J,F2,Z⟩
   ·cases J
end
structure RunW where
 Γ:FuncId->List Con
 fs:FuncId->List FuncId
 qs:FuncId->List FuncId
 ns:FuncId->Bool
 q:Nat
 ok:∀g f,memN f (qs g)=true->f∉fs g/\∀C∈Γ g,C.f=f->QuietC C
def RunW.all(S:RunW)(g:FuncId)(F:FuncId->List AV->Heap->Option Out):List Con:=S.Γ g++((S.fs g).map (zDq F)++(S.qs g).map (zDp F))
theorem RunW.qok(S:RunW)(g:FuncId)(F:FuncId->List AV->Heap->Option Out):∀f,memN f (S.qs g)=true->∀C∈S.all g F,C.f=f->QuietC C:=fun f J C j e=>by
 obtain⟨H,I⟩:=S.ok g f J;rcases mU.1 j with j|j
 ·exact I C j e
 ·rcases mU.1 j with j|j
  ·obtain⟨B,O,rfl⟩:=uAb.1 j;exact absurd (show B∈S.fs g from O) (by have e:B=f:=e;rw[e];exact H)
  ·obtain⟨B,_,rfl⟩:=uAb.1 j;exact zqG F B
noncomputable def zfj(P:Program)(gl:Glob)(S:RunW):Nat->FuncId->List AV->Heap->Option Out
 |0,_,_,_=>none
 |n+1,f,args,h=>match P.funcs[f]? with
  |some fn=>match fn.body,Z2 P f&&Nat.ble args.length fn.ntmps with
   |some j,true=>evR ⟨P,gl,S.all f (zfj P gl S n),0,fn.ntmps,S.qs f,S.qok f (zfj P gl S n)⟩ h.length S.q j ⟨zel 0 args,h⟩
    ⟨zuJ P (S.ns f) h.length fn.results.toList,fun _ _=>none,zuJ P (S.ns f) h.length fn.results.toList⟩
   |_,_=>none
  |none=>none
theorem Ym{P:Program}{GP:Ro->Prop}{gl:Glob}(b:Bas P GP gl)(S:RunW)(hΓ:∀g,∀C∈S.Γ g,SoundC P GP C):∀n g,SoundC P GP (zDq (zfj P gl S n) g)
 |0,g=>fun _ _ _ _ _ J=>by cases J
 |n+1,g=>by
  intro j h x r Y J;have hx:(j,h)=x:=Option.some.inj Y;subst hx;have B:zfj P gl S (n+1) g j h=some r:=J;have quiet:∀g,SoundC P GP (zDp (zfj P gl S n) g):=fun g j h x r Y J=>by obtain⟨e1,_⟩:=zez J;exact Ym b S hΓ n g j h x r Y e1
  unfold zfj at B;split at B
  ·rename_i fn hf;split at B
   ·rename_i O hb hen;obtain⟨h1,h2⟩:=Bool.and_eq_true_iff.1 hen;refine⟨jk h1,fun R G w vs U W H=>?_⟩;have hlen:vs.length=j.length:=H.length.symm;have hkn':=mQ h2;refine calls_of_wp hf hb ?_;let c:Base:=⟨R,look G h,fpsAll G h,w,h.length⟩
    let a0:Act:={tmps:=vs.toArray++Array.replicate (fn.ntmps-vs.toArray.size) undef,defers:=[]}
    have F0:Fit c fn.ntmps R G ⟨zel 0 j,h⟩ a0 w:=by
     refine⟨W,⟨Keeps.refl _ _,fun _ _ h=>h,fun b h=>.inl h,fun i r b hi hr hb=>.inl (zJ.2 ⟨i,r,hi,hr,hb⟩),fun _ _ _=>rfl,mH _⟩,zdc H fun p v hp=>?_,rfl,?_⟩
     ·have hlt:=(mG.1 hp).1;rw[uAn];show(vs.toArray++Array.replicate (fn.ntmps-vs.toArray.size) undef).getD p undef=v;have h4:=(mG.1 hp).2;simp[Array.getElem?_append,hlt];exact h4
     ·show(vs.toArray++Array.replicate (fn.ntmps-vs.toArray.size) undef).size=fn.ntmps;simp;omega
    have ret:∀st R' G'(a:Act) w',zuJ P (S.ns g) c.m fn.results.toList st=some r->Fit c fn.ntmps R' G' st a w'->GP R'->a.defers=[]/\∃v,(results fn a.tmps).run P w'=.ok v w'/\
      (∃V R' G',Ending.returned v=.returned V/\WRel R' G' r.h w'/\Since c R' G' r.h w'/\Rel (look G' r.h) R' r.v V):=by
     intro st R' G' a w' h F _;obtain⟨V,R2,G2,g1,g2,g3,g4⟩:=zBn F h;exact⟨F.defers,V,g1,V,R2,G2,rfl,g2,g3,g4⟩
    refine zyo (E:=⟨P,gl,S.all g (zfj P gl S n),0,fn.ntmps,S.qs g,S.qok g (zfj P gl S n)⟩) (c:=c) b.hmx (fun C I=>?_) b.hgl b.hst O
     ⟨zuJ P (S.ns g) c.m fn.results.toList,fun _ _=>none,zuJ P (S.ns g) c.m fn.results.toList⟩ _ _ R G a0 w
     ⟨fun st R' G' a w' h F Z=>ret st R' G' a w' h F Z,(fun i st R' G' a w' h _ _=>by cases h),fun st R' G' a w' h F Z=>ret st R' G' a w' h F Z⟩ B F0 U
    rcases mU.1 I with I|I
    ·exact hΓ g C I
    ·rcases mU.1 I with I|I
     ·obtain⟨q,_,rfl⟩:=uAb.1 I;exact Ym b S hΓ n q
     ·obtain⟨q,_,rfl⟩:=uAb.1 I;exact quiet q
   ·cases B
  ·cases B
end
end Go.Am
