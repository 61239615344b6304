/-
  A part of the proof of the laws.
-/
import Derived.Test.YtodebhabandljaaGreatDoorAm27
section
namespace Go.Am
open Go Go.RowKit Go.Vc
end Go.Am
end
section
namespace Go.Am
open Go Go.RowKit Go.Vc
def zr9:AO->AO->Bool
 |.cells T l,.cells T' j=>Nat.beq T T'&&qA l j
 |.bytes T l,.bytes T' j=>Nat.beq T T'&&decide (l=j)
 |.ints T k l,.ints T' I j=>Nat.beq T T'&&kEq k I&&decide (l=j)
 |.strs T l,.strs T' j=>Nat.beq T T'&&decide (l=j)
 |.vals T z l,.vals T' y j=>Nat.beq T T'&&Nat.beq z y&&qA l j
 |.gens T a z n l,.gens T' B y H j=>(Nat.beq T T'&&Nat.beq z y)&&(((a==B)&&Nat.beq n H)&&qA l j)
 |.mp l,.mp j=>qA (l.map Prod.fst) (j.map Prod.fst)&&qA (l.map Prod.snd) (j.map Prod.snd)
 |_,_=>false
theorem zkC:∀(l j:List (AV×AV)),l.map Prod.fst=j.map Prod.fst->l.map Prod.snd=j.map Prod.snd->l=j
 |[],[],_,_=>rfl
 |(a,b)::r,(a',b')::s,h,k=>by simp only[nO,List.cons.injEq]at h k;rw[h.1,k.1,zkC r s h.2 k.2]
 |[],_::_,h,_=>by cases h
 |_::_,[],h,_=>by cases h
theorem zr8:∀(a b:AO),zr9 a b=true->a=b:=fun a b h=>by
 cases a<;>cases b<;>simp only[zr9,kY,decide_eq_true_eq,beq_iff_eq,mR]at h;any_goals first
  |(rw[kV h.1,yo _ _ h.2])
  |(rw[kV h.1,h.2])
  |(rw[kV h.1.1,zd6 h.1.2,h.2])
  |(rw[kV h.1.1,kV h.1.2,yo _ _ h.2])
  |(rw[kV h.1.1,kV h.1.2,h.2.1.1,kV h.2.1.2,yo _ _ h.2.2])
  |(rw[zkC _ _ (yo _ _ h.1) (yo _ _ h.2)])
def ZY:Heap->Heap->Bool
 |[],[]=>true
 |none::r,none::s=>ZY r s
 |some a::r,some b::s=>zr9 a b&&ZY r s
 |_,_=>false
theorem ZX:∀(a b:Heap),ZY a b=true->a=b
 |[],[],_=>rfl
 |none::r,none::s,h=>by rw[ZX r s h]
 |some a::r,some b::s,h=>by simp only[ZY,kY]at h;rw[zr8 a b h.1,ZX r s h.2]
 |[],none::_,h=>by cases h
 |[],some _::_,h=>by cases h
 |none::_,[],h=>by cases h
 |some _::_,[],h=>by cases h
 |none::_,some _::_,h=>by cases h
 |some _::_,none::_,h=>by cases h
def zto(h:Heap):Option Out->Option Out
 |some o=>cond (ZY o.h h) (some o) none
 |none=>none
theorem zbu{h:Heap}{x:Option Out}{o:Out}(e:zto h x=some o):x=some o/\o.h=h:=by
 cases x with
 |none=>cases e
 |some p=>
  have e:cond (ZY p.h h) (some p) none=some o:=e;cases hs:ZY p.h h with
  |false=>rw[hs]at e;cases e
  |true=>rw[hs]at e;cases e;exact⟨rfl,ZX _ _ hs⟩
def zz3(F:FuncId->List AV->Heap->Option Out)(g:FuncId):Con:=Con6.c ⟨g,List AV×Heap,Out,fun a h=>some (a,h),fun x=>F g x.1 x.2,fun _ o=>o⟩
def zz2(F:FuncId->List AV->Heap->Option Out)(g:FuncId):Con:=Con6.c ⟨g,List AV×Heap,Out,fun a h=>some (a,h),fun x=>zto x.2 (F g x.1 x.2),fun _ o=>o⟩
theorem zl9(F:FuncId->List AV->Heap->Option Out)(g:FuncId):QuietC (zz2 F g):=fun j h x r B y=>by have H:(j,h)=x:=Option.some.inj B;subst H;exact (zbu y).2
end Go.Am
end
section
namespace Go.Am
open Go Go.RowKit Go.Vc
def zaq(a b:St):Bool:=ZY a.h b.h&&(a.s.map Prod.fst++b.s.map Prod.fst).all fun t=>zes (get a.s t) (get b.s t)
theorem zi6:∀{s:Slots}{t:Nat},t∉s.map Prod.fst->get s t=.undef
 |[],_,_=>rfl
 |(x,v)::r,t,h=>by
  simp only[nO,mS,not_or]at h;have j:Nat.beq x t=false:=by
   cases j:Nat.beq x t with
   |false=>rfl
   |true=>exact absurd (kV j).symm h.1
  simp only[get,j];exact zi6 h.2
theorem zpH{a b:St}(h:zaq a b=true):Eqv a b:=by
 unfold zaq at h;rw[kY,mK]at h;refine⟨fun t=>?_,ZX _ _ h.1⟩;by_cases j:t∈a.s.map Prod.fst++b.s.map Prod.fst
 ·exact Qi _ _ (h.2 t j)
 ·rw[mQ,not_or]at j;rw[zi6 j.1,zi6 j.2]
def rmA(i:Nat)(j:List (Oper×Nat)):List (Oper×Nat):=j.filter fun x=>!Nat.beq x.2 i
theorem ziL{i:Nat}{j:List (Oper×Nat)}{x:Oper×Nat}:x∈rmA i j↔x∈j/\x.2≠i:=by
 unfold rmA;rw[nB];refine and_congr_right fun _=>?_
 cases hb:Nat.beq x.2 i with
 |true=>exact⟨fun h=>(by cases h),fun h=>absurd (kV hb) h⟩
 |false=>exact⟨fun _ e=>(by rw[e,Nat.beq_refl]at hb;cases hb),fun _=>rfl⟩
def candsA(B:List (List Nat))(j:List (Oper×Nat)):List (Oper×Nat):=j.filter fun x=>j.all fun y=>!memN y.2 (B[x.2]?.getD [])
def zup(B:List (List Nat))(y:List Nat)(j:Nat):Bool:=y.all fun p=>!memN j (B[p]?.getD [])
def zqt{R:Type}(E:Env)(all:List Oper)(base:Nat):List (Oper×Nat)->St->(St->Option R)->Option R
 |[],st,k=>k st
 |(o,j)::r,st,k=>match ziN (fpW E all st (nidOf all base j) o)with
  |false=>none
  |true=>match zC all o st with
   |some true=>opK E true (nidOf all base j) o.op st fun v _=>zqt E all base r ⟨putO o.dst v st.s,st.h⟩ k
   |some false=>zqt E all base r ⟨putO o.dst (.tup []) st.s,st.h⟩ k
   |none=>none
def zao(E:Env)(all:List Oper)(base:Nat)(B:List (List Nat))(fs y:List (Oper×Nat))(j:List Nat)(st:St):Option St:=zqt E all base (fs.filter fun f=>zlS B y f.2&&zyu B j.head? f.2) st fun st=>zce E all base (fs.filter fun f=>zlS B y f.2&&(zup B j f.2&&!zyu B j.head? f.2)) st (some st)
def zzu{α:Type}(f:α->Option St):List α->Option St
 |[]=>none
 |x::r=>match f x with
  |none=>none
  |some s=>cond (r.all fun y=>match f y with
   |some t=>zaq t s
   |none=>false) (some s) none
def evH(E:Env)(all:List Oper)(base:Nat)(B:List (List Nat))(fs:List (Oper×Nat)):Nat->List (Oper×Nat)->List Nat->St->Option St
 |_n,[],pl,st=>zao E all base B fs [] pl st
 |0,_::_,_,_=>none
 |n+1,a::j,pl,st=>match zao E all base B fs (a::j) pl st with
  |none=>none
  |some cs=>zzu (fun x=>match zjo E all base x.1 x.2 cs some with
   |some st'=>evH E all base B fs n (rmA x.2 (a::j)) (x.2::pl) st'
   |none=>none) (candsA B (a::j))
def zix(n:Nat)(ops:List Oper)(B:List (List Nat))(A:List Nat):Bool:=
 ops.zipIdx.all fun(o,i)=>
  ((Vc.edgesOf o).all fun e=>Nat.blt e i)&&
  (match o.dst with
   |some d=>Nat.blt d n&&(match Vc.wrFrom ops 0 d with
    |some j=>Nat.beq j i
    |none=>false)
   |none=>true)&&
  ((o.looksAt ops.toArray).all fun t=>match Vc.wrFrom ops 0 t with
   |some j=>memN j (B[i]?.getD [])||((match ops[j]? with
    |some _=>memN j A
    |none=>false)&&(Nat.beq j i||memN i (B[j]?.getD [])))
   |none=>true)
def zzt(ops:List Oper)(B:List (List Nat)):List Nat:=(List.range ops.length).filter fun i=>match ops[i]? with
 |some o=>isAnch o.op||(match o.dst with
  |some d=>ops.zipIdx.any fun x=>memN d (x.1.looksAt ops.toArray)&&!memN i (B[x.2]?.getD [])&&!Nat.beq x.2 i
  |none=>false)
 |none=>false
def zjn(E:Env)(ops:List Oper)(st:St):Option St:=
 let B:=Vc.beforeOf true ops;let A:=zzt ops B
 match zix E.n ops B A with
 |true=>evH E ops st.h.length B (ops.zipIdx.filter fun x=>!memN x.2 A) (ops.zipIdx.length) (ops.zipIdx.filter fun x=>memN x.2 A) [] ⟨st.s,wide st.h (rsvAll ops)⟩
 |false=>none
section
variable {E : Env} {ops : List Oper} {A : List Nat} {base : Nat}
def zeb(E:Env)(ops:List Oper)(A:List Nat)(base:Nat)(B:List (Oper×Nat))(y:List Nat)(st cs:St):Prop:=cs.h=st.h/\(∀t,(∀j o,ops[j]? =some o->memN j A=false->(∀p,y.head? =some p->Anc ops j p)->o.dst≠some t)->get cs.s t=get st.s t)/\(∀j o,ops[j]? =some o->memN j A=false->(∀x∈B,¬Anc ops j x.2)->(∀p∈y,¬Anc ops p j)->CkF E ops base j o cs)
def GoodT(E:Env)(ops:List Oper)(A:List Nat)(base:Nat):Nat->List (Oper×Nat)->List Nat->St->St->Prop
 |0,j,_,cs,fin=>j=[]/\Eqv cs fin
 |n+1,j,pl,cs,fin=>(j=[]->Eqv cs fin)/\∀x∈candsA (beforeOf true ops) j,∃v D hh,(∀st':St,st'.h=cs.h->(∀t∈x.1.looksAt ops.toArray,get st'.s t=get cs.s t)->(zC ops x.1 st'=some true/\opK E (zak x.1.op) (nidOf ops base x.2) x.1.op st' (fun v s=>some (v,s))=some (v,⟨(scrub D st').s,hh⟩))\/(zC ops x.1 st'=some false/\v=.tup []/\D=[]/\hh=st'.h))/\∃y,zeb E ops A base (rmA x.2 j) (x.2::pl) ⟨putO x.1.dst v (scrub D cs).s,hh⟩ y/\GoodT E ops A base n (rmA x.2 j) (x.2::pl) y fin
theorem GoodT.eqv:∀{n:Nat}{H:List (Oper×Nat)}{B:List Nat}{cs fin j:St},GoodT E ops A base n H B cs fin->Eqv fin j->GoodT E ops A base n H B cs j
 |0,_,_,_,_,_,h,e=>⟨h.1,h.2.trans e⟩
 |n+1,_,_,_,_,_,h,e=>⟨fun Z=>(h.1 Z).trans e,fun x U=>by obtain⟨v,D,hh,I,y,J,O⟩:=h.2 x U;exact⟨v,D,hh,I,y,J,GoodT.eqv O e⟩⟩
theorem GoodT.fin:∀{n:Nat}{j:List Nat}{cs fin:St},GoodT E ops A base n [] j cs fin->Eqv cs fin
 |0,_,_,_,h=>h.2
 |_+1,_,_,_,h=>h.1 rfl
theorem GoodT.step{n:Nat}{y:List (Oper×Nat)}{B:List Nat}{cs fin:St}{o:Oper}{i:Nat}(h:GoodT E ops A base n y B cs fin)(I:(o,i)∈candsA (beforeOf true ops) y):
  ∃U v D hh,(∀st':St,st'.h=cs.h->(∀t∈o.looksAt ops.toArray,get st'.s t=get cs.s t)->
    (zC ops o st'=some true/\opK E (zak o.op) (nidOf ops base i) o.op st' (fun v s=>some (v,s))=some (v,⟨(scrub D st').s,hh⟩))\/(zC ops o st'=some false/\v=.tup []/\D=[]/\hh=st'.h))/\
   ∃j,zeb E ops A base (rmA i y) (i::B) ⟨putO o.dst v (scrub D cs).s,hh⟩ j/\GoodT E ops A base U (rmA i y) (i::B) j fin:=by
 cases n with
 |zero=>exfalso;have H:=h.1;subst H;cases I
 |succ n=>obtain⟨v,D,hh,H,j,J,O⟩:=h.2 (o,i) I;exact⟨n,v,D,hh,H,j,J,O⟩
theorem zgj{α:Type}:∀(l:List α)(n:Nat),(l.zipIdx n).Pairwise (fun a b=>a.2<b.2)/\∀x∈l.zipIdx n,n<=x.2
 |[],_=>⟨by simp,by simp⟩
 |a::l,n=>by
  obtain⟨H,y⟩:=zgj l (n+1);rw[List.zipIdx_cons];refine⟨uAH.2 ⟨fun b B=>y b B,H⟩,fun x j=>?_⟩;rcases mS.1 j with rfl|j
  ·exact mA _
  ·exact Nat.le_of_succ_le (y x j)
theorem zg8:∀{fl:List (Oper×Nat)}{st:St}{T:Type}{k:St->Option T}{r:T},(fl.Pairwise fun a b=>∀d,b.1.dst=some d->d∉a.1.looksAt ops.toArray/\a.1.dst≠some d)->
  (∀f∈fl,∀d,f.1.dst=some d->d∉f.1.looksAt ops.toArray)->zqt E ops base fl st k=some r->
  ∃st':St,k st'=some r/\st'.h=st.h/\(∀t,(∀f∈fl,f.1.dst≠some t)->get st'.s t=get st.s t)/\∀f∈fl,CkF E ops base f.2 f.1 st'
 |[],st,_,_,_,_,_,h=>⟨st,h,rfl,fun _ _=>rfl,fun f y=>by cases y⟩
 |(o,j)::fl,st,T,k,r,hp,hs,h=>by
  simp only[zqt]at h;obtain⟨U,hp2⟩:=uAH.1 hp;have hs2:∀f∈fl,∀d,f.1.dst=some d->d∉f.1.looksAt ops.toArray:=fun f y=>hs f (mU _ y)
  split at h
  ·cases h
  ·rename_i B;have go:∀{v:AV},zqt E ops base fl ⟨putO o.dst v st.s,st.h⟩ k=some r->((zC ops o st=some true/\Loc E (nidOf ops base j) o.op st v [])\/(zC ops o st=some false/\v=.tup []))->
     ∃st':St,k st'=some r/\st'.h=st.h/\(∀t,(∀f∈(o,j)::fl,f.1.dst≠some t)->get st'.s t=get st.s t)/\∀f∈(o,j)::fl,CkF E ops base f.2 f.1 st':=by
    intro v h hc;obtain⟨st',Z,I,h3,h4⟩:=zg8 hp2 hs2 h;have look:∀t∈o.looksAt ops.toArray,get st'.s t=get st.s t:=fun t O=>(h3 t fun f y J=>(U f y t J).1 O).trans (jA fun J=>hs (o,j) mV t J O)
    refine⟨st',Z,I,fun t O=>(h3 t (fun f y=>O f (mU _ y))).trans (jA (O (o,j) mV)),fun f y=>?_⟩;rcases mS.1 y with rfl|y
    ·refine⟨v,fun d J=>?_,?_⟩
     ·rw[h3 d fun f y hd2=>(U f y d hd2).2 J];show get (putO o.dst v st.s) d=v;rw[show o.dst=some d from J];show get (put d v st.s) d=v;rw[jf,if_pos rfl]
     ·rcases hc with⟨H,hl⟩|⟨H,hv⟩
      ·exact .inl ⟨(zy look).trans H,hl.move (jV look) (fun _=>I) (fun _ _ _=>by rw[I])⟩
      ·exact .inr ⟨(zy look).trans H,hv⟩
    ·exact h4 f y
   split at h
   ·rename_i H;obtain⟨v,u,Z,I⟩:=XD h;have hu:u=[]:=by
     unfold ziN at B;rw[kY,nW,Ya H]at B;refine I.2.1 (ja B.1) ?_;rcases B.2 with h|h
     ·exact .inl (by simpa using h)
     ·exact .inr (Jp h)
    subst hu;exact go Z (.inl ⟨H,I⟩)
   ·rename_i H;exact go h (.inr ⟨H,rfl⟩)
   ·cases h
def zu7(ops:List Oper)(A:List Nat):Prop:=(∀(i:Nat)(o:Oper)(t j:Nat)(y:Oper),ops[i]? =some o->t∈o.looksAt ops.toArray->ops[j]? =some y->y.dst=some t->(Anc ops i j/\j<i)\/memN j A=true)/\∀(i j:Nat)(oi y:Oper)(d:Nat),ops[i]? =some oi->ops[j]? =some y->oi.dst=some d->y.dst=some d->i=j
theorem Qf{fs az:List (Oper×Nat)}{Z:List Nat}{st s':St}(hL:zu7 ops A)(hf:fs=ops.zipIdx.filter fun x=>!memN x.2 A)(h:zao E ops base (beforeOf true ops) fs az Z st=some s'):zeb E ops A base az Z st s':=by
 unfold zao at h;have mem:∀{p:Oper×Nat->Bool}{f:Oper×Nat},f∈fs.filter p->ops[f.2]? =some f.1/\memN f.2 A=false/\p f=true:=fun{p f} y=>by rw[nB]at y;obtain⟨B,m2⟩:=y;rw[hf,nB]at B;exact⟨uAa.1 B.1,by simpa using B.2,m2⟩
 have pw:∀{p:Oper×Nat->Bool},(fs.filter p).Pairwise fun a b=>∀d,b.1.dst=some d->d∉a.1.looksAt ops.toArray/\a.1.dst≠some d:=fun{p}=>by
  have h0:(fs.filter p).Pairwise fun a b=>a.2<b.2:=by rw[hf];exact ((zgj ops 0).1.filter _).filter _
  refine List.Pairwise.imp_of_mem (fun{a b} ha U hlt d hd=>?_) h0;obtain⟨O,_,_⟩:=mem ha;obtain⟨b1,b2,_⟩:=mem U;refine⟨fun I=>?_,fun ha2=>?_⟩
  ·rcases hL.1 a.2 a.1 d b.2 b.1 O I b1 hd with⟨_,h⟩|h
   ·omega
   ·rw[b2]at h;cases h
  ·have:=hL.2 a.2 b.2 a.1 b.1 d O b1 ha2 hd;omega
 obtain⟨cs,h1,h2,h3,h6⟩:=zg8 pw (fun f y d hd I=>by
  obtain⟨O,a2,_⟩:=mem y;rcases hL.1 f.2 f.1 d f.2 f.1 O I O hd with⟨_,h⟩|h
  ·omega
  ·rw[a2]at h;cases h) h
 obtain⟨h4,h5⟩:=za9 h1;cases h4;refine⟨h2,fun t I=>h3 t (fun f y=>?_),fun j o hj ha hx hp=>?_⟩
 ·obtain⟨B,m2,m3⟩:=mem y;rw[kY]at m3;refine I f.2 f.1 B m2 fun p hp=>?_
  have m4:=m3.2;rw[hp]at m4;exact zU (zA.1 m4)
 ·have J:(o,j)∈fs:=by rw[hf,nB];exact⟨uAa.2 hj,by simp[ha]⟩
  have H:zlS (beforeOf true ops) az j=true:=by
   unfold zlS;rw[mK];intro x hxm;cases U:memN x.2 ((beforeOf true ops)[j]?.getD [])with
   |false=>rfl
   |true=>exact absurd (zU (zA.1 U)) (hx x hxm)
  have hfr:zup (beforeOf true ops) Z j=true:=by
   unfold zup;rw[mK];intro p hpm;cases U:memN j ((beforeOf true ops)[p]?.getD [])with
   |false=>rfl
   |true=>exact absurd (zU (zA.1 U)) (hp p hpm)
  cases hn:zyu (beforeOf true ops) Z.head? j with
  |true=>exact h6 (o,j) (nB.2 ⟨J,by rw[H,hn];rfl⟩)
  |false=>exact h5 (o,j) (nB.2 ⟨J,by rw[H,hfr,hn];rfl⟩)
theorem znQ{α:Type}{f:α->Option St}{l:List α}{s:St}(h:zzu f l=some s):∀x∈l,∃t,f x=some t/\Eqv t s:=by
 cases l with
 |nil=>cases h
 |cons a r=>
  have h:(match f a with
   |none=>none
   |some s=>cond (r.all fun y=>match f y with
    |some t=>zaq t s
    |none=>false) (some s) none)=some s:=h
  cases hs:f a with
  |none=>rw[hs]at h;cases h
  |some j=>
   rw[hs]at h;have h:cond (r.all fun y=>match f y with
    |some t=>zaq t j
    |none=>false) (some j) none=some s:=h
   cases hb:(r.all fun y=>match f y with
    |some t=>zaq t j
    |none=>false)with
   |false=>rw[hb]at h;cases h
   |true=>
    rw[hb]at h;cases h;intro x B;rcases mS.1 B with rfl|B
    ·exact⟨s,hs,Eqv.refl _⟩
    ·have H:=mK.1 hb x B;split at H
     ·rename_i t I;exact⟨t,I,zpH H⟩
     ·cases H
theorem zuy{fs:List (Oper×Nat)}(O:zu7 ops A)(I:fs=ops.zipIdx.filter fun x=>!memN x.2 A):∀{n:Nat}{j:List (Oper×Nat)}{y:List Nat}{st fin:St},evH E ops base (beforeOf true ops) fs n j y st=some fin->
  ∃cs,zeb E ops A base j y st cs/\GoodT E ops A base n j y cs fin:=by
 intro n;induction n with
 |zero=>
  intro j y st fin h;cases j with
  |nil=>
   have h:zao E ops base (beforeOf true ops) fs [] y st=some fin:=by unfold evH at h;exact h
   exact⟨fin,Qf O I h,rfl,Eqv.refl _⟩
  |cons a j=>unfold evH at h;cases h
 |succ n ih=>
  intro j y st fin h;cases j with
  |nil=>
   have h:zao E ops base (beforeOf true ops) fs [] y st=some fin:=by unfold evH at h;exact h
   exact⟨fin,Qf O I h,fun _=>Eqv.refl _,fun x Z=>by cases Z⟩
  |cons a j=>
   unfold evH at h;split at h
   ·cases h
   ·rename_i cs U;refine⟨cs,Qf O I U,fun h0=>(by cases h0),fun x Z=>?_⟩;obtain⟨t,J,h2⟩:=znQ h x Z;split at J
    ·rename_i st' H;obtain⟨v,D,hh,h3,h4⟩:=zhb H;cases h3;obtain⟨B,h5,h6⟩:=ih J;exact⟨v,D,hh,h4,B,h5,h6.eqv h2⟩
    ·cases J
variable {GP : Ro -> Prop} {c : Base}
structure AtH(E:Env)(GP:Ro->Prop)(c:Base)(ops:List Oper)(A:List Nat)(base:Nat)(az:List (Oper×Nat))(pl:List Nat)(fin cs:St)(listed:Array Bool)(s:St)(R:Ro)(G:List Res)(a:Act)(w:World):Prop where
 sz:listed.size=ops.length
 cl:∀i,listed.getD i false=true->∀o,ops[i]? =some o->∀e∈edgesOf o,listed.getD e false=true
 fit:Fit c E.n R G s a w
 gp:GP R
 len:s.h.length=base+rsvAll ops
 free:∀i o,ops[i]? =some o->listed.getD i false=false->FreeR s.h (nidOf ops base i) (rsv o)
 hp:s.h=cs.h
 sl:∀t,(∀j o,ops[j]? =some o->o.dst=some t->memN j A=false->listed.getD j false=true)->get s.s t=get cs.s t
 an:∀i o,ops[i]? =some o->memN i A=true->((o,i)∈az↔listed.getD i false=false)
 az2:∀f∈az,ops[f.2]? =some f.1/\memN f.2 A=true
 pal:∀p∈pl,listed.getD p false=true
 ck:∀j o,ops[j]? =some o->memN j A=false->(∀x∈az,¬Anc ops j x.2)->(∀p∈pl,¬Anc ops p j)->CkF E ops base j o cs
 kont:∃n,GoodT E ops A base n az pl cs fin
theorem zBM(hΓ:∀C∈E.Γ,SoundC E.P GP C)(hgl:∀R,GP R->GlobOK E.gl R)(hst:Stays GP){ops:List Oper}{A:List Nat}{T:Type}{r:T}{k:St->Option T}{fin:St}(hfin:k fin=some r){Q:Exit->Act->World->Prop}{base:Nat}(hS:StatOk E.n 0 ops)(hcm:c.m<=base)
  (hlook:∀i o t j J,ops[i]? =some o->t∈o.looksAt ops.toArray->ops[j]? =some J->J.dst=some t->Anc ops i j\/memN j A=true)
  (hK:∀st' R' G' a' w',k st'=some r->Fit c E.n R' G' st' a' w'->GP R'->Q .normal a' w'):
  ∀(O:Nat)(az:List (Oper×Nat))(pl:List Nat)(cs:St)(B:Array Bool)(s:St)(R:Ro)(G:List Res)(a:Act)(w:World),AtH E GP c ops A base az pl fin cs B s R G a w->(zb3 ops B).length<=O->wpAny E.P .any ops.toArray Q O B a w:=by
 have hE:∀(j k:Nat)(J ok:Oper)(d:Nat),ops[j]? =some J->ops[k]? =some ok->J.dst=some d->ok.dst=some d->j=k:=by intro j k J ok d H hk hd hd';have h1:=(hS.lt j J d H hd).2;have h2:=(hS.lt k ok d hk hd').2;rw[h1]at h2;exact Option.some.inj h2
 have hend:∀(az:List (Oper×Nat))(pl:List Nat)(cs:St)(B:Array Bool)(s:St)(R:Ro)(G:List Res)(a:Act)(w:World),AtH E GP c ops A base az pl fin cs B s R G a w->Region.ready .any ops.toArray B=[]->Q .normal a w:=by
  intro az pl cs B s R G a w I hr;have hall:∀j,j<ops.length->B.getD j false=true:=by
   intro j;induction j using Nat.strongRecOn with
   |_ j ih=>
    intro H;cases hb:B.getD j false with
    |true=>rfl
    |false=>
     exfalso;have:j∈Region.ready .any ops.toArray B:=by
      rw[mem_ready];refine⟨?_,ops[j],by simp[H],fun e he hbind=>?_⟩
      ·have hlt:j<B.size:=by rw[I.sz];exact H
       simp[hlt]at hb⊢;exact hb
      ·have hlt:=hS.edge j ops[j] (by simp[H]) e.on (by
        unfold edgesOf;rw[uAn];exact⟨e,by simpa using he,by simp[hbind]⟩)
       exact ih e.on hlt (by omega)
     rw[hr]at this;cases this
  have has:az=[]:=by
   cases az with
   |nil=>rfl
   |cons x l=>exfalso;obtain⟨h1,h2⟩:=I.az2 x mV;have h3:=(I.an x.2 x.1 h1 h2).1 mV;rw[hall x.2 (kX.1 h1).1]at h3;cases h3
  obtain⟨m,hk⟩:=I.kont;subst has;have he:Eqv cs fin:=hk.fin;have hsl:∀t,get s.s t=get fin.s t:=fun t=>(I.sl t fun j o H _ _=>hall j (kX.1 H).1).trans (he.1 t)
  have hhp:s.h=fin.h:=I.hp.trans he.2;have F':Fit c E.n R G fin a w:=⟨by rw[<-hhp];exact I.fit.wrel,by rw[<-hhp];exact I.fit.since,fun t=>by rw[<-hsl t,<-hhp];exact I.fit.slots t,I.fit.defers,I.fit.size⟩
  exact hK fin R G a w hfin F' I.gp
 intro O;induction O with
 |zero=>
  intro az pl cs B s R G a w I hfu;have hr:Region.ready .any ops.toArray B=[]:=by
   rcases hc:Region.ready .any ops.toArray B with _|⟨i,l⟩
   ·rfl
   ·exfalso;have hi:i∈Region.ready .any ops.toArray B:=by rw[hc];simp
    rw[mem_ready]at hi;obtain⟨hun,o,ho,_⟩:=hi;have ho':ops[i]? =some o:=by simpa using ho
    have hilt:i<ops.length:=(kX.1 ho').1;have hil:i<B.size:=by rw[I.sz];exact hilt
    have hSi:B.getD i false=false:=by simp[hil]at hun⊢;exact hun
    have:i∈zb3 ops B:=by unfold zb3;rw[nB];exact⟨by simpa using hilt,by rw[hSi];rfl⟩
    rw[mW.1 (by omega:(zb3 ops B).length=0)]at this;cases this
  exact⟨hr,hend az pl cs B s R G a w I hr⟩
 |succ O ih=>
  intro az pl cs B s R G a w I hfu;refine⟨fun hr=>hend az pl cs B s R G a w I hr,fun i hi=>?_⟩;rw[mem_ready]at hi;obtain⟨hun,o,ho,hall⟩:=hi;have ho':ops[i]? =some o:=by simpa using ho
  have hilt:i<ops.length:=(kX.1 ho').1;have hil:i<B.size:=by rw[I.sz];exact hilt
  have hSi:B.getD i false=false:=by simp[hil]at hun⊢;exact hun
  have hdir:∀e∈edgesOf o,B.getD e false=true:=by
   intro e he;unfold edgesOf at he;rw[uAn]at he;obtain⟨x,hx,hxe⟩:=he;split at hxe
   ·rename_i hb;cases hxe;exact hall x (by simpa using hx) hb
   ·cases hxe
  have hanc:∀k j,Anc ops k j->B.getD k false=true->B.getD j false=true:=by
   intro k j h;induction h with
   |one h he=>intro hk;exact I.cl _ hk _ h _ he
   |more h he _ ih=>intro hk;exact ih (I.cl _ hk _ h _ he)
  have hanci:∀j,Anc ops i j->B.getD j false=true:=by
   intro j h;cases h with
   |one h he=>rw[ho']at h;cases h;exact hdir _ he
   |more h he h'=>rw[ho']at h;cases h;exact hanc _ _ h' (hdir _ he)
  have Z:∀j,(B.setIfInBounds i true).getD j false=(B.getD j false||Nat.beq j i):=by
   intro j;by_cases U:j=i
   ·subst U;simp[hil]
   ·have hne:¬i=j:=fun h=>U h.symm
    have hb:Nat.beq j i=false:=by
     cases hb:Nat.beq j i with
     |false=>rfl
     |true=>exact absurd (kV hb) U
    simp[hb,Array.getElem?_setIfInBounds_ne hne]
  have hset2:∀j,j≠i->(B.setIfInBounds i true).getD j false=B.getD j false:=by
   intro j U;have hb:Nat.beq j i=false:=by
    cases hb:Nat.beq j i with
    |false=>rfl
    |true=>exact absurd (kV hb) U
   rw[Z,hb,Bool.or_false]
  have hseti:(B.setIfInBounds i true).getD i false=true:=by rw[Z,Nat.beq_refl,Bool.or_true]
  have hfu':(zb3 ops (B.setIfInBounds i true)).length<=O:=by
   obtain⟨l1,l2,g1,g2,_⟩:=qt (p:=fun j=>!B.getD j false) (q:=fun j=>!(B.setIfInBounds i true).getD j false) (l:=List.range ops.length) uAK (by simpa using hilt) (by simp only[hSi];rfl)
    (fun j=>by rw[Z];cases B.getD j false<;>cases Nat.beq j i<;>rfl)
   unfold zb3 at hfu⊢;rw[g1]at hfu;rw[g2];simp at hfu⊢;omega
  have hcl':∀j,(B.setIfInBounds i true).getD j false=true->∀J,ops[j]? =some J->∀e∈edgesOf J,(B.setIfInBounds i true).getD e false=true:=by
   intro j H J hoj e he;rw[Z]at H⊢;simp only[nW]at H⊢;rcases H with H|H
   ·exact .inl (I.cl j H J hoj e he)
   ·have:=kV H;subst this;rw[ho']at hoj;cases hoj;exact .inl (hdir e he)
  have hfree':∀{h':Heap},Jm (nidOf ops base i) (rsv o) s.h h'->∀j J,ops[j]? =some J->(B.setIfInBounds i true).getD j false=false->FreeR h' (nidOf ops base j) (rsv J):=by
   intro h' hno j J hoj H x hx1 hx2;rw[Z]at H;simp only[Bool.or_eq_false_iff]at H;have hne:j≠i:=fun e=>by rw[e]at H;simp at H
   refine hno x (fun hh=>?_) (I.free j J hoj H.1 x hx1 hx2);rcases Nat.lt_or_gt_of_ne hne with hlt|hlt
   ·have:=js (base:=base) hoj ho' hlt;omega
   ·have:=js (base:=base) ho' hoj hlt;omega
  have hops:∀t∈o.looksAt ops.toArray,get s.s t=get cs.s t:=fun t ht=>I.sl t fun j J H hd hf=>by
   rcases hlook i o t j J ho' ht H hd with h|h
   ·exact hanci j h
   ·rw[hf]at h;cases h
  have hdst:zae E.n o.dst=true:=by
   cases hd:o.dst with
   |none=>rfl
   |some d=>exact (hS.lt i o d ho' hd).1
  unfold wpOp;have hoA:ops.toArray[i]? =some o:=by simpa using ho'
  simp only[hoA];cases ha:memN i A with
  |false=>
   obtain⟨v,hv,hc⟩:=I.ck i o ho' ha (fun x hx hA=>by
    obtain⟨h1,h2⟩:=I.az2 x hx;have h3:=(I.an x.2 x.1 h1 h2).1 hx;rw[hanci x.2 hA]at h3;cases h3) (fun p hp hA=>by
    have:=hanc p i hA (I.pal p hp);rw[hSi]at this;cases this)
   have next:∀(R':Ro)(G':List Res)(a':Act)(w':World),Fit c E.n R' G' ⟨putO o.dst v s.s,s.h⟩ a' w'->GP R'->wpAny E.P .any ops.toArray Q O (B.setIfInBounds i true) a' w':=by
    intro R' G' a' w' F' hGP';refine ih az pl cs (B.setIfInBounds i true) ⟨putO o.dst v s.s,s.h⟩ R' G' a' w' ⟨by simpa using I.sz,hcl',F',hGP',I.len,hfree' (fun _ _ h=>h),I.hp,fun t ht=>?_,fun j J H haj=>?_,I.az2,fun p hp=>?_,I.ck,I.kont⟩ hfu'
    ·by_cases hd:o.dst=some t
     ·show get (putO o.dst v s.s) t=_;rw[hd];show get (put t v s.s) t=_;rw[jf,if_pos rfl,hv t hd]
     ·show get (putO o.dst v s.s) t=_;rw[jA hd];refine I.sl t fun j J H hdj hfj=>?_
      have:=ht j J H hdj hfj;rwa [hset2 j (fun e=>by subst e;rw[ho']at H;cases H;exact hd hdj)]at this
    ·rw[hset2 j (fun e=>by subst e;rw[ho']at H;cases H;rw[ha]at haj;cases haj)];exact I.an j J H haj
    ·rw[Z,I.pal p hp];rfl
   rcases hc with⟨hw,hloc⟩|⟨hw,rfl⟩
   ·have hw':=(zy hops).trans hw;have hloc':Loc E (nidOf ops base i) o.op s v []:=hloc.move (jV hops) (fun _=>I.hp) (fun _ _ _=>by rw[I.hp]);rw[jJ I.fit hS hw',if_pos rfl];have heff:=hloc'.eff (AV×St) (fun v s=>some (v,s));refine .inl (Oper.wp_mono ?_ (JE hΓ hgl I.fit I.gp (show c.m<=nidOf ops base i by unfold nidOf;omega) (I.free i o ho' hSi) (by rw[I.len];exact yZ ho') heff));rintro a' w' ⟨v',st',R',G',V,h1,rfl,h2,h3,h4,h5,h6⟩;simp only[Option.some.injEq,Prod.mk.injEq]at h1;obtain⟨rfl,rfl⟩:=h1;exact next R' G' _ w' (h2.put hdst h3) (hst R R' h6 I.gp)
   ·have hw':=(zy hops).trans hw;rw[jJ I.fit hS hw'];simp only[mR,if_false];exact next R G _ w (I.fit.put (v:=.tup []) (V:=undef) hdst ⟨[],rfl,rfl⟩) I.gp
  |true=>
   have hmem:=(I.an i o ho' ha).2 hSi;have hcand:(o,i)∈candsA (beforeOf true ops) az:=by
    unfold candsA;rw[nB];refine⟨hmem,mK.2 fun y hy=>?_⟩;show(!memN y.2 ((beforeOf true ops)[i]?.getD []))=true;cases hb:memN y.2 ((beforeOf true ops)[i]?.getD [])with
    |false=>rfl
    |true=>exfalso;have h1:=hanci y.2 (zU (zA.1 hb));obtain⟨h2,h3⟩:=I.az2 y hy;rw[(I.an y.2 y.1 h2 h3).1 hy]at h1;cases h1
   obtain⟨m,hk⟩:=I.kont;obtain⟨m',v,D,hh,heffs,cs',⟨q1,q2,q3⟩,q4⟩:=hk.step hcand;have next:∀(R':Ro)(G':List Res)(a':Act)(w':World),Fit c E.n R' G' ⟨putO o.dst v (scrub D s).s,hh⟩ a' w'->GP R'->Jm (nidOf ops base i) (rsv o) s.h hh->hh.length=s.h.length->wpAny E.P .any ops.toArray Q O (B.setIfInBounds i true) a' w':=by
    intro R' G' a' w' F' hGP' hno hlen';refine ih (rmA i az) (i::pl) cs' (B.setIfInBounds i true) ⟨putO o.dst v (scrub D s).s,hh⟩ R' G' a' w' ⟨by simpa using I.sz,hcl',F',hGP',hlen'.trans I.len,hfree' hno,q1.symm,fun t ht=>?_,fun j J H haj=>?_,fun f hf=>I.az2 f (ziL.1 hf).1,fun p hp=>?_,q3,⟨m',q4⟩⟩ hfu'
    ·rw[q2 t fun j J H hfj hpj hdj=>?_]
     ·by_cases hd:o.dst=some t
      ·show get (putO o.dst v (scrub D s).s) t=get (putO o.dst v (scrub D cs).s) t;rw[hd];show get (put t v _) t=get (put t v _) t;rw[jf,jf,if_pos rfl,if_pos rfl]
      ·show get (putO o.dst v (scrub D s).s) t=get (putO o.dst v (scrub D cs).s) t;rw[jA hd,jA hd];refine zfn D (I.sl t fun j J H hdj hfj=>?_);have:=ht j J H hdj hfj;rwa [hset2 j (fun e=>by subst e;rw[ho']at H;cases H;exact hd hdj)]at this
     ·have h1:=ht j J H hdj hfj;have U:j≠i:=fun e=>by subst e;rw[ho']at H;cases H;rw[ha]at hfj;cases hfj
      rw[hset2 j U]at h1;have h2:=hanc j i (hpj i rfl) h1;rw[hSi]at h2;cases h2
    ·by_cases U:j=i
     ·subst U;rw[ho']at H;cases H;rw[hseti];exact⟨fun h=>absurd rfl (ziL.1 h).2,fun h=>by cases h⟩
     ·rw[hset2 j U,<-I.an j J H haj,ziL];exact⟨fun h=>h.1,fun h=>⟨h,U⟩⟩
    ·rcases mS.1 hp with rfl|hp
     ·exact hseti
     ·rw[Z,I.pal p hp];rfl
   rcases heffs s I.hp hops with⟨hw,hop⟩|⟨hw,rfl,rfl,rfl⟩
   ·rw[jJ I.fit hS hw,if_pos rfl];refine .inl (Oper.wp_mono ?_ (JE hΓ hgl I.fit I.gp (show c.m<=nidOf ops base i by unfold nidOf;omega) (I.free i o ho' hSi) (by rw[I.len];exact yZ ho') hop));rintro a' w' ⟨v',st',R',G',V,h1,rfl,h2,h3,h4,h5,h6⟩;simp only[Option.some.injEq,Prod.mk.injEq]at h1;obtain⟨rfl,rfl⟩:=h1;exact next R' G' _ w' (h2.put hdst h3) (hst R R' h6 I.gp) h4 h5
   ·rw[jJ I.fit hS hw];simp only[mR,if_false];exact next R G _ w (I.fit.put (v:=.tup []) (V:=undef) hdst ⟨[],rfl,rfl⟩) I.gp (fun _ _ h=>h) rfl
theorem zmH{n:Nat}{ops:List Oper}{A:List Nat}(h:zix n ops (beforeOf true ops) A=true):StatOk n 0 ops/\
  (∀i o t j J,ops[i]? =some o->t∈o.looksAt ops.toArray->ops[j]? =some J->J.dst=some t->Anc ops i j\/memN j A=true):=by
 unfold zix at h;have H:∀(i:Nat)(o:Oper)(d:Nat),ops[i]? =some o->o.dst=some d->Nat.blt d n=true/\wrFrom ops 0 d=some i:=by
  intro i o d B Z;have y:=jO h B;simp only[kY]at y;obtain⟨⟨y,U⟩,h3⟩:=y;rw[Z]at U;simp only[kY]at U;obtain⟨h4,O⟩:=U;refine⟨h4,?_⟩;split at O
  ·rename_i j I;rw[I,kV O]
  ·cases O
 refine⟨⟨fun i o B e he=>?_,H,fun _ _ _ _ _ _ _=>.inr (nL _)⟩,fun i o t j J B ht I Z=>?_⟩
 ·have y:=jO h B;simp only[kY]at y;have:=mK.1 y.1.1 e he;have:e+1<=i:=by simpa[Nat.blt]using this
  omega
 ·have y:=jO h B;simp only[kY]at y;have:=mK.1 y.2 t ht;rw[(H j J t I Z).2]at this;simp only[I,nW,kY]at this;rcases this with this|⟨this,_⟩
  ·exact .inl (zU (zA.1 this))
  ·exact .inr this
theorem znj(hm:E.P.follows .mixedOrders=true)(hΓ:∀C∈E.Γ,SoundC E.P GP C)(hgl:∀R,GP R->GlobOK E.gl R)(hst:Stays GP){ops:List Oper}{T:Type}{r:T}{k:St->Option T}{Q:Exit->Act->World->Prop}{st fin:St}{R:Ro}{G:List Res}
  {a:Act} {w:World} (F:Fit c E.n R G st a w) (hGP:GP R) (h:zjn E ops st=some fin) (U:k fin=some r) (hK:∀st' R' G' a' w',k st'=some r->Fit c E.n R' G' st' a' w'->GP R'->Q .normal a' w') {id:Nat}:
  (Code.region id ops.toArray true).wp E.P Q a w:=by
 unfold zjn at h;simp only[]at h;split at h
 ·rename_i I;obtain⟨hS,y⟩:=zmH I;obtain⟨G0,F0,H,O⟩:=F.wide (rsvAll ops);have hcm:c.m<=st.h.length:=F.since.many;have hL:zu7 ops (zzt ops (beforeOf true ops)):=⟨fun i o t j oj B ht hj hd=>(y i o t j oj B ht hj hd).imp (fun h=>⟨h,h.lt hS.edge⟩) (fun h=>h),fun i j oi oj d B hj hd hd'=>by have h1:=(hS.lt i oi d B hd).2;have h2:=(hS.lt j oj d hj hd').2;rw[h1]at h2;exact Option.some.inj h2⟩
  obtain⟨cs,⟨q1,q2,q3⟩,q4⟩:=zuy hL rfl h;have hf:∀j,(Array.replicate ops.toArray.size false).getD j false=false:=by
   intro j;by_cases Z:j<ops.length
   ·simp[Z]
   ·simp[Z]
  refine wp_region_any hm ?_;refine zBM hΓ hgl hst U hS hcm y hK ops.toArray.size _ [] cs _ ⟨st.s,wide st.h (rsvAll ops)⟩ R G0 a _
   ⟨by simp,fun i B=>?_,F0.keep (Keeps.drawn w _),hGP,O,fun i o B _ x hx1 hx2=>H x (by unfold nidOf at hx1;omega),q1.symm,fun t ht=>?_,fun i o B ha=>?_,fun f J=>?_,fun p hp=>(by cases hp),q3,⟨_,q4⟩⟩ ?_
  ·rw[hf]at B;cases B
  ·rw[q2 t fun j o hj hfj _ hd=>?_];have:=ht j o hj hd hfj;rw[hf]at this;cases this
  ·rw[hf,nB];exact⟨fun _=>rfl,fun _=>⟨uAa.2 B,ha⟩⟩
  ·rw[nB]at J;exact⟨uAa.1 J.1,J.2⟩
  ·have h1:=List.length_filter_le (fun j=>!(Array.replicate ops.toArray.size false).getD j false) (List.range ops.length);have h2:(List.range ops.length).length=ops.toArray.size:=by simp
   exact uAG h1 (Nat.le_of_eq h2)
 ·cases h
end
end Go.Am
end
section
namespace Go.Am
open Go Go.RowKit Go.Vc
def X9(m:Nat)(st:St):Option St:=
 let lv:=st.s.map Prod.fst
 match zys m lv st with
 |some (vs,h)=>some ⟨zhp lv vs,h⟩
 |none=>none
def Jd{R:Type}(E:Env)(ops:List Oper)(st:St)(k:St->Option R):Option R:=match Jx E ops st some with
 |some s=>k s
 |none=>match zjn E ops st with
  |some s=>k s
  |none=>none
def zA5(n:Nat)(ops:List Oper):Bool:=Vz n ops (Vc.beforeOf true ops)||(ziy n ops||(Vy n 2 ops&&Kq 2 ops||(Vy n 1 ops&&Kq 1 ops||zj7 (zd5 ops 0 ops.length) ops)))
def Yh{R:Type}(E:Env)(ops:List Oper)(st:St)(k:St->Option R):Option R:=match E.N with
 |0=>Jd E ops st k
 |_+1=>match zA5 E.n ops with
  |true=>Jx E ops st k
  |false=>Jd E ops st k
def evR{R:Type}(E:Env)(m q:Nat):Code->St->Cont R->Option R
 |.skip,st,K=>K.normal st
 |.label _,st,K=>K.normal st
 |.ret,st,K=>K.ret st
 |.exit i,st,K=>K.exits i st
 |.region _ ops y,st,K=>match y with
  |false=>Q4 E ops.toList st K.normal
  |true=>Yh E ops.toList st K.normal
 |.seq a b,st,K=>evR E m q a st ⟨fun st'=>evR E m q b st' K,K.exits,K.ret⟩
 |.cond c a b,st,K=>match opnd E.gl st.s c with
  |.bool x=>cond x (evR E m q a st K) (evR E m q b st K)
  |_=>none
 |.block i a,st,K=>evR E m q a st (yz i K)
 |.scope a,st,K=>evR E m q a st K
 |.loop a,st,K=>yE (fun j st'=>evR E m q a st' ⟨fun B=>match X9 m B with
  |some s=>j s
  |none=>none,K.exits,K.ret⟩) q st
 |_,_,_=>none
def zpP(P:Program)(b:Bool)(m:Nat)(j:List ResultVar)(st:St):Option Out:=cond b (X3 P m j st) (fin P m j st)
section
variable {P : Program} {c : Base} {n : Nat} {R : Ro} {G : List Res} {st : St} {a : Act} {w : World}
theorem zyh(F:Fit c n R G st a w){fn:Func}{b:Bool}{o:Out}(h:zpP P b c.m fn.results.toList st=some o):
  ∃V R' G',(results fn a.tmps).run P w=.ok V w/\WRel R' G' o.h w/\Since c R' G' o.h w/\Rel (look G' o.h) R' o.v V:=by
 cases b with
 |true=>obtain⟨V,G',H,B,j,y⟩:=zjd F h;exact⟨V,R,G',H,B,j,y⟩
 |false=>obtain⟨V,R',G',H,B,j,y,_⟩:=zut F h;exact⟨V,R',G',H,B,j,y⟩
end
section
variable {E : Env} {GP : Ro -> Prop} {T : Type} {r : T} {c : Base} {q : Nat}
theorem ztP{R:Ro}{G:List Res}{st st':St}{a:Act}{w:World}{n:Nat}(F:Fit c n R G st a w)(h:X9 c.m st=some st'):∃G',Fit c n R G' st' a w:=by
 unfold X9 at h;simp only[]at h;split at h
 ·rename_i vs hh j;cases h;exact ziz F j
 ·cases h
theorem zbP(U:E.P.follows .mixedOrders=true)(O:∀C∈E.Γ,SoundC E.P GP C)(j:∀R,GP R->GlobOK E.gl R)(y:Stays GP){ops:List Oper}{k:St->Option T}{Q:Exit->Act->World->Prop}{st:St}{R:Ro}{G:List Res}
  {a:Act} {w:World} (F:Fit c E.n R G st a w) (B:GP R) (h:Jd E ops st k=some r) (J:∀st' R' G' H w',k st'=some r->Fit c E.n R' G' st' H w'->GP R'->Q .normal H w') {id:Nat}:
  (Code.region id ops.toArray true).wp E.P Q a w:=by
 unfold Jd at h;split at h
 ·rename_i s I;exact KO U O j y F B I fun st' R' G' H w' Z h2 h3=>by cases Z;exact J _ R' G' H w' h h2 h3
 ·split at h
  ·rename_i s I;exact znj U O j y F B I h J
  ·cases h
theorem zli(J:E.P.follows .mixedOrders=true)(I:∀C∈E.Γ,SoundC E.P GP C)(j:∀R,GP R->GlobOK E.gl R)(y:Stays GP){ops:List Oper}{k:St->Option T}{Q:Exit->Act->World->Prop}{st:St}{R:Ro}{G:List Res}
  {a:Act} {w:World} (F:Fit c E.n R G st a w) (B:GP R) (h:Yh E ops st k=some r) (H:∀st' R' G' O w',k st'=some r->Fit c E.n R' G' st' O w'->GP R'->Q .normal O w') {id:Nat}:
  (Code.region id ops.toArray true).wp E.P Q a w:=by
 unfold Yh at h;split at h
 ·exact zbP J I j y F B h H
 ·split at h
  ·exact KO J I j y F B h H
  ·exact zbP J I j y F B h H
theorem zuw(hmx:E.P.follows .mixedOrders=true)(hΓ:∀C∈E.Γ,SoundC E.P GP C)(hgl:∀R,GP R->GlobOK E.gl R)(hst:Stays GP):
  ∀(U:Code)(K:Cont T)(Q:Exit->Act->World->Prop)(st:St)(R:Ro)(G:List Res)(a:Act)(w:World),
   KOk c E.n GP r K Q->evR E c.m q U st K=some r->Fit c E.n R G st a w->GP R->U.wp E.P Q a w:=by
 intro U;induction U with
 |skip=>intro K Q st R G a w I h F H;exact wp_skip (I.normal st R G a w h F H)
 |label l=>intro K Q st R G a w I h F H;exact wp_label (I.normal st R G a w h F H)
 |ret=>intro K Q st R G a w I h F H;exact wp_ret (I.ret st R G a w h F H)
 |exit i=>intro K Q st R G a w I h F H;exact wp_exit (I.exits i st R G a w h F H)
 |region id ops draw=>
  intro K Q st R G a w I h F H;simp only[evR]at h;split at h
  ·have:=zbO hΓ hgl hst F H h (Q:=Q) (fun st' R' G' a' w' J Z h3=>I.normal st' R' G' a' w' J Z h3) (id:=id);simpa using this
  ·have:=zli hmx hΓ hgl hst F H h (Q:=Q) (fun st' R' G' a' w' J Z h3=>I.normal st' R' G' a' w' J Z h3) (id:=id);simpa using this
 |scope body ih=>intro K Q st R G a w I h F H;simp only[evR]at h;exact wp_scope_straight (ih K (Exit.noGoto Q) st R G a w ⟨I.normal,I.exits,I.ret⟩ h F H)
 |goto l=>intro K Q st R G a w I h F H;simp only[evR]at h;cases h
 |refuse why=>intro K Q st R G a w I h F H;simp only[evR]at h;cases h
 |rangeFunc f ps asg body ih1 ih2=>intro K Q st R G a w I h F H;simp only[evR]at h;cases h
 |seq x y ihx ihy=>intro K Q st R G a w I h F H;simp only[evR]at h;refine wp_seq ?_;exact ihx ⟨fun st'=>evR E c.m q y st' K,K.exits,K.ret⟩ _ st R G a w ⟨fun st' R' G' a' w' J Z h3=>ihy K Q st' R' G' a' w' I J Z h3,I.exits,I.ret⟩ h F H
 |cond b x y ihx ihy=>
  intro K Q st R G a w I h F H;simp only[evR]at h;split at h
  ·rename_i t ht;have hb:=Qy (hgl R H) F.slots b;rw[ht]at hb;simp only[Rel]at hb;refine wp_cond hb ?_;cases t
   ·exact ihy K Q st R G a w I h F H
   ·exact ihx K Q st R G a w I h F H
  ·cases h
 |block i x ih=>
  intro K Q st R G a w I h F H;simp only[evR]at h;refine wp_block (ih (yz i K) _ st R G a w ⟨I.normal,fun j st' R' G' a' w' J Z h3=>?_,I.ret⟩ h F H);simp only[yz]at J;show(if j=i then Q .normal a' w' else Q (.exit j) a' w');split at J
  ·rename_i hb;rw[if_pos (y9.1 hb)];exact I.normal st' R' G' a' w' J Z h3
  ·rename_i hb;rw[if_neg (fun e=>by rw[y9.2 e]at hb;cases hb)];exact I.exits j st' R' G' a' w' J Z h3
 |loop x ih=>
  intro K Q st R G a w I h F H;simp only[evR]at h;generalize hB:(fun(again:St->Option T) st'=>evR E c.m q x st' ⟨fun O=>match X9 c.m O with
   |some s=>again s
   |none=>none,K.exits,K.ret⟩)=B at h
  refine Qc (ι:=Nat) id (fun n a w=>∃st R G,yE B n st=some r/\Fit c E.n R G st a w/\GP R) ?_ q ⟨st,R,G,h,F,H⟩;intro n a w ⟨st,R,G,h,F,H⟩;cases n with
  |zero=>cases h
  |succ n=>
   have J:B (yE B n) st=some r:=h;have h':evR E c.m q x st ⟨fun O=>match X9 c.m O with
    |some s=>yE B n s
    |none=>none,K.exits,K.ret⟩=some r:=by
    have Z:=congrFun (congrFun hB (yE B n)) st;rw[<-Z]at J;exact J
   refine ih ⟨fun O=>match X9 c.m O with
    |some s=>yE B n s
    |none=>none,K.exits,K.ret⟩ _ st R G a w ⟨fun st' R' G' a' w' J Z h3=>?_,I.exits,I.ret⟩ h' F H
   simp only[]at J;split at J
   ·rename_i s hs;obtain⟨G2,F2⟩:=ztP Z hs;exact⟨n,uAx n,s,R',G2,J,F2,h3⟩
   ·cases J
end
structure RunW where
 Γ:FuncId->List Con
 fs:FuncId->List FuncId
 qs:FuncId->List FuncId
 ns:FuncId->Bool
 q:Nat
 ok:∀g f,memN f (qs g)=true->f∉fs g/\∀C∈Γ g,C.f=f->QuietC C
def RunW.all(S:RunW)(g:FuncId)(F:FuncId->List AV->Heap->Option Out):List Con:=S.Γ g++((S.fs g).map (zz3 F)++(S.qs g).map (zz2 F))
theorem RunW.qok(S:RunW)(g:FuncId)(F:FuncId->List AV->Heap->Option Out):∀f,memN f (S.qs g)=true->∀C∈S.all g F,C.f=f->QuietC C:=fun f H C j e=>by
 obtain⟨B,I⟩:=S.ok g f H;rcases mQ.1 j with j|j
 ·exact I C j e
 ·rcases mQ.1 j with j|j
  ·obtain⟨y,J,rfl⟩:=nZ.1 j;exact absurd (show y∈S.fs g from J) (by have e:y=f:=e;rw[e];exact B)
  ·obtain⟨y,_,rfl⟩:=nZ.1 j;exact zl9 F y
noncomputable def zb0(P:Program)(gl:Glob)(S:RunW):Nat->FuncId->List AV->Heap->Option Out
 |0,_,_,_=>none
 |n+1,f,args,h=>match P.funcs[f]? with
  |some fn=>match fn.body,ZD P f&&Nat.ble args.length fn.ntmps with
   |some j,true=>evR ⟨P,gl,S.all f (zb0 P gl S n),0,fn.ntmps,S.qs f,S.qok f (zb0 P gl S n)⟩ h.length S.q j ⟨zbj 0 args,h⟩
    ⟨zpP P (S.ns f) h.length fn.results.toList,fun _ _=>none,zpP P (S.ns f) h.length fn.results.toList⟩
   |_,_=>none
  |none=>none
theorem ZZ{P:Program}{GP:Ro->Prop}{gl:Glob}(b:Bas P GP gl)(S:RunW)(hΓ:∀g,∀C∈S.Γ g,SoundC P GP C):∀n g,SoundC P GP (zz3 (zb0 P gl S n) g)
 |0,g=>fun _ _ _ _ _ I=>by cases I
 |n+1,g=>by
  intro j h x r hd I;have hx:(j,h)=x:=Option.some.inj hd;subst hx;have y:zb0 P gl S (n+1) g j h=some r:=I;have quiet:∀g,SoundC P GP (zz2 (zb0 P gl S n) g):=fun g j h x r hd I=>by obtain⟨e1,_⟩:=zbu I;exact ZZ b S hΓ n g j h x r hd e1
  unfold zb0 at y;split at y
  ·rename_i fn hf;split at y
   ·rename_i J O hen;obtain⟨h1,h2⟩:=Bool.and_eq_true_iff.1 hen;refine⟨jk h1,fun R G w vs U W B=>?_⟩;have hlen:vs.length=j.length:=B.length.symm;have hkn':=mI h2;refine calls_of_wp hf O ?_;let c:Base:=⟨R,look G h,fpsAll G h,w,h.length⟩
    let a0:Act:={tmps:=vs.toArray++Array.replicate (fn.ntmps-vs.toArray.size) undef,defers:=[]}
    have F0:Fit c fn.ntmps R G ⟨zbj 0 j,h⟩ a0 w:=by
     refine⟨W,⟨Keeps.refl _ _,fun _ _ h=>h,fun b h=>.inl h,fun i r b hi hr O=>.inl (zO.2 ⟨i,r,hi,hr,O⟩),fun _ _ _=>rfl,mA _⟩,zaj B fun p v hp=>?_,rfl,?_⟩
     ·have hlt:=(kX.1 hp).1;rw[uAr];show(vs.toArray++Array.replicate (fn.ntmps-vs.toArray.size) undef).getD p undef=v;have h4:=(kX.1 hp).2;simp[Array.getElem?_append,hlt];exact h4
     ·show(vs.toArray++Array.replicate (fn.ntmps-vs.toArray.size) undef).size=fn.ntmps;simp;omega
    have ret:∀st R' G'(a:Act) w',zpP P (S.ns g) c.m fn.results.toList st=some r->Fit c fn.ntmps R' G' st a w'->GP R'->a.defers=[]/\∃v,(results fn a.tmps).run P w'=.ok v w'/\
      (∃V R' G',Ending.returned v=.returned V/\WRel R' G' r.h w'/\Since c R' G' r.h w'/\Rel (look G' r.h) R' r.v V):=by
     intro st R' G' a w' h F _;obtain⟨V,R2,G2,g1,g2,g3,g4⟩:=zyh F h;exact⟨F.defers,V,g1,V,R2,G2,rfl,g2,g3,g4⟩
    refine zuw (E:=⟨P,gl,S.all g (zb0 P gl S n),0,fn.ntmps,S.qs g,S.qok g (zb0 P gl S n)⟩) (c:=c) b.hmx (fun C H=>?_) b.hgl b.hst J
     ⟨zpP P (S.ns g) c.m fn.results.toList,fun _ _=>none,zpP P (S.ns g) c.m fn.results.toList⟩ _ _ R G a0 w
     ⟨fun st R' G' a w' h F Z=>ret st R' G' a w' h F Z,(fun i st R' G' a w' h _ _=>by cases h),fun st R' G' a w' h F Z=>ret st R' G' a w' h F Z⟩ y F0 U
    rcases mQ.1 H with H|H
    ·exact hΓ g C H
    ·rcases mQ.1 H with H|H
     ·obtain⟨q,_,rfl⟩:=nZ.1 H;exact ZZ b S hΓ n q
     ·obtain⟨q,_,rfl⟩:=nZ.1 H;exact quiet q
   ·cases y
  ·cases y
end Go.Am
end
