/-
  A part of the proof of the laws.
-/
import Derived.Test.YtodebhabandljaaGreatDoorAm7
namespace Go.Am
open Go Go.RowKit Go.Vc
def fpsAll:List Res->Heap->List Nat
 |r::G,some _::h=>r.fp++fpsAll G h
 |_::G,none::h=>fpsAll G h
 |_,_=>[]
theorem zO:∀{G:List Res}{h:Heap}{b:Nat},b∈fpsAll G h↔∃i r,live h i/\G[i]? =some r/\b∈r.fp
 |[],_,b=>by simp[fpsAll]
 |r::G,[],b=>by simp only[fpsAll,List.not_mem_nil,false_iff];rintro⟨i,r,⟨o,ho⟩,_⟩;simp[hget]at ho
 |r::G,some o::h,b=>by
  simp only[fpsAll,mQ,zO (G:=G) (h:=h)];constructor
  ·rintro(H|⟨i,B,⟨o',ho⟩,j,y⟩)
   ·exact⟨0,r,⟨o,rfl⟩,rfl,H⟩
   ·exact⟨i+1,B,⟨o',ho⟩,by simpa using j,y⟩
  ·rintro⟨i,B,⟨o',ho⟩,j,y⟩;cases i with
   |zero=>simp at j;subst j;exact .inl y
   |succ i=>exact .inr ⟨i,B,⟨o',ho⟩,by simpa using j,y⟩
 |r::G,none::h,b=>by
  simp only[fpsAll,zO (G:=G) (h:=h)];constructor
  ·rintro⟨i,B,⟨o',ho⟩,j,y⟩;exact⟨i+1,B,⟨o',ho⟩,by simpa using j,y⟩
  ·rintro⟨i,B,⟨o',ho⟩,j,y⟩;cases i with
   |zero=>simp[hget]at ho
   |succ i=>exact⟨i,B,⟨o',ho⟩,by simpa using j,y⟩
def SoundC(P:Program)(GP:Ro->Prop)(C:Con):Prop:=∀j h x r,C.dec j h=some x->C.spec x=some r->Proofs.Enters P C.f/\∀R G w vs,GP R->WRel R G h w->RelL (look G h) R j vs->Calls P C.f vs.toArray w fun e w'=>∃V R' G',e=.returned V/\WRel R' G' (C.enc x r).h w'/\Since ⟨R,look G h,fpsAll G h,w,h.length⟩ R' G' (C.enc x r).h w'/\Rel (look G' (C.enc x r).h) R' (C.enc x r).v V
theorem zeU{i:Nat}:∀{l:List Nat}{n p:Nat},qX i l n=some p->n<=p/\l[p-n]? =some i
 |[],_,_,h=>by cases h
 |j::r,n,p,h=>by
  simp only[qX]at h;split at h
  ·rename_i y;cases h;exact⟨mA _,by simp[Nat.eq_of_beq_eq_true y]⟩
  ·have:=zeU h;refine⟨by omega,?_⟩;rw[show p-n=(p-(n+1))+1 by omega];simpa using this.2
theorem Yv{i:Nat}{l:List Nat}{p:Nat}(h:qX i l 0=some p):l[p]? =some i:=by simpa using(zeU h).2
theorem JR{σ:Nat->Option Nat}{o o':AO}(h:Z0 σ o=some o'):lenO o'=lenO o:=by
 unfold Z0 at h;split at h
 ·split at h
  ·cases h;rfl
  ·cases h
 ·split at h
  ·cases h;rfl
  ·cases h
 ·cases h;rfl
theorem ObjRel.ren{L L':Lk}{R R':Ro}{σ:Nat->Option Nat}{r:Res}{o o':AO}{w:World}(h:ObjRel L R r o w)(ho:Z0 σ o=some o')(H:∀b o,R b=some o->R' b=some o)
  (O:∀i j,σ i=some j->∀f,L i=some f->L' j=some f):ObjRel L' R' r o' w:=by
 unfold Z0 at ho;split at ho
 ·rename_i T cs;split at ho
  ·rename_i a ha;cases ho;obtain⟨U,h2,vs,h3,Z⟩:=h;exact⟨U,h2,vs,h3,Zm H O _ _ _ ha Z⟩
  ·cases ho
 ·rename_i T J z n cs;split at ho
  ·rename_i a ha;cases ho;simp only[ObjRel]at h⊢;exact RowAt.stable h (fun _ _=>rfl) fun s hs=>Zm H O _ _ _ ha hs
  ·cases ho
 ·rename_i I B;cases ho;have y:idsO o=[]:=by
   cases o with
   |cells T cs=>exact absurd rfl (I T cs)
   |gens T J z n cs=>exact absurd rfl (B T J z n cs)
   |_=>rfl
  exact h.stable (fun _ _=>rfl) H (by simp[y])
theorem ZT{σ:Nat->Option Nat}{h:Heap}:∀{acc:List Nat}{v:Heap},YW σ h acc=some v->v.length=acc.length/\
  ∀(p i:Nat),acc[p]? =some i->∃(o o':AO),hget h i=some o/\Z0 σ o=some o'/\v[p]? =some (some o')
 |[],v,e=>by cases e;exact⟨rfl,by simp⟩
 |i::r,v,e=>by
  simp only[YW]at e;split at e
  ·rename_i o H ho hv;split at e
   ·rename_i o' ho';cases e;obtain⟨B,y⟩:=ZT hv;refine⟨by simp[B],fun p j hp=>?_⟩;cases p with
    |zero=>simp at hp;subst hp;exact⟨o,o',ho,ho',rfl⟩
    |succ p=>simpa using y p j (by simpa using hp)
   ·cases e
  ·cases e
theorem zay{σ:Nat->Option Nat}:∀{h v:Heap},zhV σ h=some v->v.length=h.length/\∀(p:Nat),(h[p]? =some none->v[p]? =some none)/\∀(o:AO),h[p]? =some (some o)->∃(o':AO),Z0 σ o=some o'/\v[p]? =some (some o')
 |[],v,e=>by cases e;exact⟨rfl,by simp⟩
 |none::r,v,e=>by
  simp only[zhV]at e;split at e
  ·rename_i H hv;cases e;obtain⟨y,B⟩:=zay hv;refine⟨by simp[y],fun p=>?_⟩;cases p with
   |zero=>exact⟨fun _=>rfl,fun o ho=>by simp at ho⟩
   |succ p=>simpa using B p
  ·cases e
 |some o::r,v,e=>by
  simp only[zhV]at e;split at e
  ·rename_i o' H ho hv;cases e;obtain⟨y,B⟩:=zay hv;refine⟨by simp[y],fun p=>?_⟩;cases p with
   |zero=>exact⟨fun h=>by simp at h,fun I j=>by simp at j;subst j;exact⟨o',ho,rfl⟩⟩
   |succ p=>simpa using B p
  ·cases e
def Zh:List Res->List Nat->List Res->List Res
 |G,i::r,o::s=>Zh (G.set i o) r s
 |G,_,_=>G
theorem ZG:∀{ids:List Nat}{h ho:Heap},(jx h ids ho).length=h.length
 |[],h,ho=>by simp[jx]
 |i::r,h,[]=>by simp[jx]
 |i::r,h,o::s=>by rw[jx,ZG];simp
theorem zai:∀{ids:List Nat}{G Go:List Res},(Zh G ids Go).length=G.length
 |[],G,Go=>by cases Go<;>simp[Zh]
 |i::r,G,[]=>by simp[Zh]
 |i::r,G,o::s=>by rw[Zh,zai];simp
theorem y7:∀{ids:List Nat}{h ho:Heap}{i:Nat},i∉ids->(jx h ids ho)[i]? =h[i]?
 |[],h,ho,i,_=>by simp[jx]
 |j::r,h,[],i,_=>by simp[jx]
 |j::r,h,o::s,i,hi=>by simp only[mS,not_or]at hi;rw[jx,y7 hi.2,nF,if_neg (fun e=>hi.1 e.symm)]
theorem Jz:∀{ids:List Nat}{G Go:List Res}{i:Nat},i∉ids->(Zh G ids Go)[i]? =G[i]?
 |[],G,Go,i,_=>by cases Go<;>simp[Zh]
 |j::r,G,[],i,_=>by simp[Zh]
 |j::r,G,o::s,i,hi=>by simp only[mS,not_or]at hi;rw[Zh,Jz hi.2,nF,if_neg (fun e=>hi.1 e.symm)]
theorem zlw:∀{ids:List Nat}{h ho:Heap}{p i:Nat},ids.Nodup->ids[p]? =some i->i<h.length->p<ho.length->(jx h ids ho)[i]? =ho[p]?
 |[],_,_,_,_,_,hp,_,_=>by simp at hp
 |j::r,h,[],p,i,_,_,_,hl=>by simp at hl
 |j::r,h,o::s,p,i,y,hp,hi,hl=>by
  have y:=List.nodup_cons.1 y;rw[jx];cases p with
  |zero=>simp only[uAw,Option.some.injEq]at hp;subst hp;rw[y7 y.1,nF,if_pos rfl,if_pos hi];rfl
  |succ p=>simp only[uAm]at hp⊢;exact zlw y.2 hp (by simpa using hi) (by simpa using hl)
theorem zlx:∀{ids:List Nat}{G Go:List Res}{p i:Nat},ids.Nodup->ids[p]? =some i->i<G.length->p<Go.length->(Zh G ids Go)[i]? =Go[p]?
 |[],_,_,_,_,_,hp,_,_=>by simp at hp
 |j::r,h,[],p,i,_,_,_,hl=>by simp at hl
 |j::r,h,o::s,p,i,y,hp,hi,hl=>by
  have y:=List.nodup_cons.1 y;rw[Zh];cases p with
  |zero=>simp only[uAw,Option.some.injEq]at hp;subst hp;rw[Jz y.1,nF,if_pos rfl,if_pos hi];rfl
  |succ p=>simp only[uAm]at hp⊢;exact zlx y.2 hp (by simpa using hi) (by simpa using hl)
theorem YK:∀{ids:List Nat}{ho:Heap}{i:Nat},i∈J2 ids ho↔∃(p:Nat),ids[p]? =some i/\ho[p]? =some none
 |[],ho,i=>by simp[J2]
 |j::r,[],i=>by simp[J2]
 |j::r,none::s,i=>by
  simp only[J2,mS,YK (ids:=r) (ho:=s)];constructor
  ·rintro(rfl|⟨p,y,B⟩)
   ·exact⟨0,rfl,rfl⟩
   ·exact⟨p+1,by simpa using y,by simpa using B⟩
  ·rintro⟨p,y,B⟩;cases p with
   |zero=>simp at y;exact .inl y.symm
   |succ p=>exact .inr ⟨p,by simpa using y,by simpa using B⟩
 |j::r,some o::s,i=>by
  simp only[J2,YK (ids:=r) (ho:=s)];constructor
  ·rintro⟨p,y,B⟩;exact⟨p+1,by simpa using y,by simpa using B⟩
  ·rintro⟨p,y,B⟩;cases p with
   |zero=>simp at B
   |succ p=>exact⟨p,by simpa using y,by simpa using B⟩
theorem zer{D:List Nat}{v:AV}{i:Nat}(h:i∈idsV (jU D v)):i∈idsV v/\i∉D:=by
 unfold jU at h;split at h
 ·simp[idsV]at h
 ·rename_i ha;refine⟨h,fun j=>?_⟩;have:(idsV v).any (fun i=>memN i D)=true:=List.any_eq_true.2 ⟨i,h,zA.2 j⟩;rw[ha]at this;cases this
theorem Kt{D:List Nat}:∀{l:List AV}{i:Nat},i∈idsL (l.map (jU D))->i∈idsL l/\i∉D
 |[],i,h=>by simp[idsL]at h
 |v::r,i,h=>by
  simp only[nO,idsL,mQ]at h⊢;rcases h with h|h
  ·have:=zer h;exact⟨.inl this.1,this.2⟩
  ·have:=Kt h;exact⟨.inr this.1,this.2⟩
theorem YL{D:List Nat}:∀{s:Slots}{t:Nat},get (s.map fun(t,v)=>(t,jU D v)) t=jU D (get s t)
 |[],t=>by simp[get,jU,idsV]
 |(x,v)::r,t=>by
  simp only[nO,get];split
  ·rfl
  ·exact YL
section
variable {P : Program} {c : Base} {n : Nat} {R : Ro} {G : List Res} {st : St} {a : Act} {w w' : World}
theorem Fit.scrub(F:Fit c n R G st a w)(D:List Nat):Fit c n R G (scrub D st) a w/\(∀i,look G (scrub D st).h i=look G st.h i)/\(scrub D st).h.length=st.h.length/\
  (∀i o,hget (scrub D st).h i=some o->∀j∈idsO o,j∉D)/\(∀t,∀j∈idsV (get (scrub D st).s t),j∉D)/\(∀i,hget st.h i=none->hget (scrub D st).h i=none):=by
 cases D with
 |nil=>exact⟨F,fun _=>rfl,rfl,by simp,by simp,fun _ h=>h⟩
 |cons d D=>
  have e:Am.scrub (d::D) st=⟨st.s.map fun(t,v)=>(t,jU (d::D) v),st.h.map (jZ (d::D))⟩:=rfl;rw[e];generalize d::D=D;have hh:∀i,hget (st.h.map (jZ D)) i=match hget st.h i with|some o=>jZ D (some o)|none=>none:=by
   intro i;unfold hget;rw[mX];cases st.h[i]? with
   |none=>rfl
   |some o=>cases o with
    |none=>rfl
    |some o=>cases o<;>rfl
  have B:∀i o',hget (st.h.map (jZ D)) i=some o'->∃o,hget st.h i=some o/\jZ D (some o)=some o':=by
   intro i o' h;rw[hh]at h;split at h
   ·rename_i o ho;exact⟨o,ho,h⟩
   ·cases h
  have y:∀i,live (st.h.map (jZ D)) i->live st.h i:=fun i ⟨o,ho⟩=>let⟨o',h,_⟩:=B i o ho;⟨o',h⟩
  have Z:∀o o',jZ D (some o)=some o'->lenO o'=lenO o:=by intro o o' h;cases o<;>simp only[jZ,Option.some.injEq]at h<;>subst h<;>rfl
  have O:∀i,look G (st.h.map (jZ D)) i=look G st.h i:=by
   intro i;unfold look;rw[hh];cases ho:hget st.h i with
   |none=>rfl
   |some o=>
    cases ho':jZ D (some o)with
    |none=>cases o<;>simp[jZ]at ho'
    |some o'=>simp only[ho'];cases G[i]? <;>simp[Z o o' ho']
  have J:look G (st.h.map (jZ D))=look G st.h:=funext O;refine⟨⟨⟨by simp[F.wrel.len],fun i o r ho hr=>?_,fun i j ri rj hij I U=>F.wrel.sep i j ri rj hij (y i I) (y j U),fun i r I=>F.wrel.sepR i r (y i I),F.wrel.ro⟩,
   ⟨F.since.keeps,F.since.rsub,F.since.rnew,fun i r b I=>F.since.own i r b (y i I),fun i him I=>(O i).trans (F.since.same i him (y i I)),by simpa using F.since.many⟩,fun t=>?_,F.defers,F.size⟩,
   O,by simp,fun i o ho j U=>?_,fun t j U=>?_,fun i I=>by rw[hh,I]⟩
  ·obtain⟨o',h1,H⟩:=B i o ho;have h3:=F.wrel.obj i o' r h1 hr;rw[J];cases o' with
   |cells T cs=>simp only[jZ,Option.some.injEq]at H;subst H;obtain⟨g1,g2,vs,g3,g4⟩:=h3;exact⟨g1,g2,vs,g3,K1 (fun _ _ h=>h) (fun _ _ _ h=>h) g4⟩
   |gens T ag z n cs=>simp only[jZ,Option.some.injEq]at H;subst H;simp only[ObjRel]at h3⊢;exact RowAt.stable h3 (fun _ _=>rfl) fun s hs=>K1 (fun _ _ h=>h) (fun _ _ _ h=>h) hs
   |_=>simp only[jZ,Option.some.injEq]at H;subst H;exact h3
  ·show Rel _ _ (get (st.s.map fun(t,v)=>(t,jU D v)) t) _;rw[YL,J];exact zhm (fun _ _ h=>h) (fun _ _ _ h=>h) (F.slots t)
  ·obtain⟨o',h1,H⟩:=B i o ho;cases o' with
   |cells T cs=>simp only[jZ,Option.some.injEq]at H;subst H;exact (Kt U).2
   |gens T ag z n cs=>simp only[jZ,Option.some.injEq]at H;subst H;exact (Kt U).2
   |_=>simp only[jZ,Option.some.injEq]at H;subst H;simp[idsO]at U
  ·have hj':j∈idsV (get (st.s.map fun(t,v)=>(t,jU D v)) t):=U;rw[YL]at hj';exact (zer hj').2
end
end Go.Am
