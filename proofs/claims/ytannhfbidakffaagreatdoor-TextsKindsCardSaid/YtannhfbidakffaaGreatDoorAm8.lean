/-
  A part of the proof of the laws.
-/
import Derived.Test.YtannhfbidakffaaGreatDoorAm7
namespace Go.Am
open Go Go.RowKit Go.Vc
def fpsAll:List Res->Heap->List Nat
 |r::G,some _::h=>r.fp++fpsAll G h
 |_::G,none::h=>fpsAll G h
 |_,_=>[]
theorem zJ:∀{G:List Res}{h:Heap}{b:Nat},b∈fpsAll G h↔∃i r,live h i/\G[i]? =some r/\b∈r.fp
 |[],_,b=>by simp[fpsAll]
 |r::G,[],b=>by simp only[fpsAll,List.not_mem_nil,false_iff];rintro⟨i,r,⟨o,ho⟩,_⟩;simp[hget]at ho
 |r::G,some o::h,b=>by
  simp only[fpsAll,mU,zJ (G:=G) (h:=h)];constructor
  ·rintro(I|⟨i,H,⟨o',ho⟩,j,B⟩)
   ·exact⟨0,r,⟨o,rfl⟩,rfl,I⟩
   ·exact⟨i+1,H,⟨o',ho⟩,by simpa using j,B⟩
  ·rintro⟨i,H,⟨o',ho⟩,j,B⟩;cases i with
   |zero=>simp at j;subst j;exact .inl B
   |succ i=>exact .inr ⟨i,H,⟨o',ho⟩,by simpa using j,B⟩
 |r::G,none::h,b=>by
  simp only[fpsAll,zJ (G:=G) (h:=h)];constructor
  ·rintro⟨i,H,⟨o',ho⟩,j,B⟩;exact⟨i+1,H,⟨o',ho⟩,by simpa using j,B⟩
  ·rintro⟨i,H,⟨o',ho⟩,j,B⟩;cases i with
   |zero=>simp[hget]at ho
   |succ i=>exact⟨i,H,⟨o',ho⟩,by simpa using j,B⟩
def SoundC(P:Program)(GP:Ro->Prop)(C:Con):Prop:=∀j h x r,C.dec j h=some x->C.spec x=some r->Proofs.Enters P C.f/\∀R G w vs,GP R->WRel R G h w->RelL (look G h) R j vs->Calls P C.f vs.toArray w fun e w'=>∃V R' G',e=.returned V/\WRel R' G' (C.enc x r).h w'/\Since ⟨R,look G h,fpsAll G h,w,h.length⟩ R' G' (C.enc x r).h w'/\Rel (look G' (C.enc x r).h) R' (C.enc x r).v V
theorem zhx{i:Nat}:∀{l:List Nat}{n p:Nat},Ja i l n=some p->n<=p/\l[p-n]? =some i
 |[],_,_,h=>by cases h
 |j::r,n,p,h=>by
  simp only[Ja]at h;split at h
  ·rename_i B;cases h;exact⟨mH _,by simp[Nat.eq_of_beq_eq_true B]⟩
  ·have:=zhx h;refine⟨oM,?_⟩;rw[show p-n=(p-(n+1))+1 by omega];simpa using this.2
theorem XY{i:Nat}{l:List Nat}{p:Nat}(h:Ja i l 0=some p):l[p]? =some i:=by simpa using(zhx h).2
theorem zce{σ:Nat->Option Nat}{o o':AO}(h:XT σ o=some o'):lenO o'=lenO o:=by
 unfold XT at h;split at h
 ·split at h
  ·cases h;rfl
  ·cases h
 ·split at h
  ·cases h;rfl
  ·cases h
 ·cases h;rfl
theorem ObjRel.ren{L L':Lk}{R R':Ro}{σ:Nat->Option Nat}{r:Res}{o o':AO}{w:World}(h:ObjRel L R r o w)(ho:XT σ o=some o')(I:∀b o,R b=some o->R' b=some o)
  (O:∀i j,σ i=some j->∀f,L i=some f->L' j=some f):ObjRel L' R' r o' w:=by
 unfold XT at ho;split at ho
 ·rename_i T cs;split at ho
  ·rename_i a ha;cases ho;obtain⟨U,Z,vs,Y,h4⟩:=h;exact⟨U,Z,vs,Y,Jp I O _ _ _ ha h4⟩
  ·cases ho
 ·rename_i T S z n cs;split at ho
  ·rename_i a ha;cases ho;simp only[ObjRel]at h⊢;exact RowAt.stable h (fun _ _=>rfl) fun s hs=>Jp I O _ _ _ ha hs
  ·cases ho
 ·rename_i J H;cases ho;have B:idsO o=[]:=by
   cases o with
   |cells T cs=>exact absurd rfl (J T cs)
   |gens T S z n cs=>exact absurd rfl (H T S z n cs)
   |_=>rfl
  exact h.stable (fun _ _=>rfl) I (by simp[B])
theorem J9{σ:Nat->Option Nat}{h:Heap}:∀{acc:List Nat}{v:Heap},KF σ h acc=some v->v.length=acc.length/\
  ∀(p i:Nat),acc[p]? =some i->∃(o o':AO),hget h i=some o/\XT σ o=some o'/\v[p]? =some (some o')
 |[],v,e=>by cases e;exact⟨rfl,sI⟩
 |i::r,v,e=>by
  simp only[KF]at e;split at e
  ·rename_i o I ho hv;split at e
   ·rename_i o' ho';cases e;obtain⟨B,H⟩:=J9 hv;refine⟨by simp[B],fun p j hp=>?_⟩;cases p with
    |zero=>simp at hp;subst hp;exact⟨o,o',ho,ho',rfl⟩
    |succ p=>simpa using H p j (by simpa using hp)
   ·cases e
  ·cases e
theorem zdA{σ:Nat->Option Nat}:∀{h v:Heap},zls σ h=some v->v.length=h.length/\∀(p:Nat),(h[p]? =some none->v[p]? =some none)/\∀(o:AO),h[p]? =some (some o)->∃(o':AO),XT σ o=some o'/\v[p]? =some (some o')
 |[],v,e=>by cases e;exact⟨rfl,sI⟩
 |none::r,v,e=>by
  simp only[zls]at e;split at e
  ·rename_i I hv;cases e;obtain⟨B,H⟩:=zdA hv;refine⟨by simp[B],fun p=>?_⟩;cases p with
   |zero=>exact⟨fun _=>rfl,fun o ho=>by simp at ho⟩
   |succ p=>simpa using H p
  ·cases e
 |some o::r,v,e=>by
  simp only[zls]at e;split at e
  ·rename_i o' I ho hv;cases e;obtain⟨B,H⟩:=zdA hv;refine⟨by simp[B],fun p=>?_⟩;cases p with
   |zero=>exact⟨fun h=>by simp at h,fun J j=>by simp at j;subst j;exact⟨o',ho,rfl⟩⟩
   |succ p=>simpa using H p
  ·cases e
def Jo:List Res->List Nat->List Res->List Res
 |G,i::r,o::s=>Jo (G.set i o) r s
 |G,_,_=>G
theorem JR:∀{ids:List Nat}{h ho:Heap},(jI h ids ho).length=h.length
 |[],h,ho=>by simp[jI]
 |i::r,h,[]=>by simp[jI]
 |i::r,h,o::s=>by rw[jI,JR];simp
theorem zc9:∀{ids:List Nat}{G Go:List Res},(Jo G ids Go).length=G.length
 |[],G,Go=>by cases Go<;>simp[Jo]
 |i::r,G,[]=>by simp[Jo]
 |i::r,G,o::s=>by rw[Jo,zc9];simp
theorem qR:∀{ids:List Nat}{h ho:Heap}{i:Nat},i∉ids->(jI h ids ho)[i]? =h[i]?
 |[],h,ho,i,_=>by simp[jI]
 |j::r,h,[],i,_=>by simp[jI]
 |j::r,h,o::s,i,hi=>by simp only[nB,not_or]at hi;rw[jI,qR hi.2,nL,if_neg (fun e=>hi.1 e.symm)]
theorem Qi:∀{ids:List Nat}{G Go:List Res}{i:Nat},i∉ids->(Jo G ids Go)[i]? =G[i]?
 |[],G,Go,i,_=>by cases Go<;>simp[Jo]
 |j::r,G,[],i,_=>by simp[Jo]
 |j::r,G,o::s,i,hi=>by simp only[nB,not_or]at hi;rw[Jo,Qi hi.2,nL,if_neg (fun e=>hi.1 e.symm)]
theorem zpT:∀{ids:List Nat}{h ho:Heap}{p i:Nat},ids.Nodup->ids[p]? =some i->i<h.length->p<ho.length->(jI h ids ho)[i]? =ho[p]?
 |[],_,_,_,_,_,hp,_,_=>by simp at hp
 |j::r,h,[],p,i,_,_,_,hl=>by simp at hl
 |j::r,h,o::s,p,i,B,hp,hi,hl=>by
  have B:=List.nodup_cons.1 B;rw[jI];cases p with
  |zero=>simp only[uAB,Option.some.injEq]at hp;subst hp;rw[qR B.1,nL,if_pos rfl,if_pos hi];rfl
  |succ p=>simp only[uAp]at hp⊢;exact zpT B.2 hp (by simpa using hi) (by simpa using hl)
theorem zpU:∀{ids:List Nat}{G Go:List Res}{p i:Nat},ids.Nodup->ids[p]? =some i->i<G.length->p<Go.length->(Jo G ids Go)[i]? =Go[p]?
 |[],_,_,_,_,_,hp,_,_=>by simp at hp
 |j::r,h,[],p,i,_,_,_,hl=>by simp at hl
 |j::r,h,o::s,p,i,B,hp,hi,hl=>by
  have B:=List.nodup_cons.1 B;rw[Jo];cases p with
  |zero=>simp only[uAB,Option.some.injEq]at hp;subst hp;rw[Qi B.1,nL,if_pos rfl,if_pos hi];rfl
  |succ p=>simp only[uAp]at hp⊢;exact zpU B.2 hp (by simpa using hi) (by simpa using hl)
theorem Ki:∀{ids:List Nat}{ho:Heap}{i:Nat},i∈Q8 ids ho↔∃(p:Nat),ids[p]? =some i/\ho[p]? =some none
 |[],ho,i=>by simp[Q8]
 |j::r,[],i=>by simp[Q8]
 |j::r,none::s,i=>by
  simp only[Q8,nB,Ki (ids:=r) (ho:=s)];constructor
  ·rintro(rfl|⟨p,B,H⟩)
   ·exact⟨0,rfl,rfl⟩
   ·exact⟨p+1,by simpa using B,by simpa using H⟩
  ·rintro⟨p,B,H⟩;cases p with
   |zero=>simp at B;exact .inl B.symm
   |succ p=>exact .inr ⟨p,by simpa using B,by simpa using H⟩
 |j::r,some o::s,i=>by
  simp only[Q8,Ki (ids:=r) (ho:=s)];constructor
  ·rintro⟨p,B,H⟩;exact⟨p+1,by simpa using B,by simpa using H⟩
  ·rintro⟨p,B,H⟩;cases p with
   |zero=>simp at H
   |succ p=>exact⟨p,by simpa using B,by simpa using H⟩
theorem zhf{D:List Nat}{v:AV}{i:Nat}(h:i∈idsV (ya D v)):i∈idsV v/\i∉D:=by
 unfold ya at h;split at h
 ·simp[idsV]at h
 ·rename_i ha;refine⟨h,fun j=>?_⟩;have:(idsV v).any (fun i=>memN i D)=true:=List.any_eq_true.2 ⟨i,h,zG.2 j⟩;rw[ha]at this;cases this
theorem za8{D:List Nat}:∀{l:List AV}{i:Nat},i∈idsL (l.map (ya D))->i∈idsL l/\i∉D
 |[],i,h=>by simp[idsL]at h
 |v::r,i,h=>by
  simp only[uAh,idsL,mU]at h⊢;rcases h with h|h
  ·have:=zhf h;exact⟨.inl this.1,this.2⟩
  ·have:=za8 h;exact⟨.inr this.1,this.2⟩
theorem Kj{D:List Nat}:∀{s:Slots}{t:Nat},get (s.map fun(t,v)=>(t,ya D v)) t=ya D (get s t)
 |[],t=>by simp[get,ya,idsV]
 |(x,v)::r,t=>by
  simp only[uAh,get];split
  ·rfl
  ·exact Kj
section
variable {P : Program} {c : Base} {n : Nat} {R : Ro} {G : List Res} {st : St} {a : Act} {w w' : World}
theorem Fit.scrub(F:Fit c n R G st a w)(D:List Nat):Fit c n R G (scrub D st) a w/\(∀i,look G (scrub D st).h i=look G st.h i)/\(scrub D st).h.length=st.h.length/\
  (∀i o,hget (scrub D st).h i=some o->∀j∈idsO o,j∉D)/\(∀t,∀j∈idsV (get (scrub D st).s t),j∉D)/\(∀i,hget st.h i=none->hget (scrub D st).h i=none):=by
 cases D with
 |nil=>exact⟨F,fun _=>rfl,rfl,sI,sI,fun _ h=>h⟩
 |cons d D=>
  have e:Am.scrub (d::D) st=⟨st.s.map fun(t,v)=>(t,ya (d::D) v),st.h.map (yk (d::D))⟩:=rfl;rw[e];generalize d::D=D;have hh:∀i,hget (st.h.map (yk D)) i=match hget st.h i with|some o=>yk D (some o)|none=>none:=by
   intro i;unfold hget;rw[nK];cases st.h[i]? with
   |none=>rfl
   |some o=>cases o with
    |none=>rfl
    |some o=>cases o<;>rfl
  have H:∀i o',hget (st.h.map (yk D)) i=some o'->∃o,hget st.h i=some o/\yk D (some o)=some o':=by
   intro i o' h;rw[hh]at h;split at h
   ·rename_i o ho;exact⟨o,ho,h⟩
   ·cases h
  have B:∀i,live (st.h.map (yk D)) i->live st.h i:=fun i ⟨o,ho⟩=>let⟨o',h,_⟩:=H i o ho;⟨o',h⟩
  have U:∀o o',yk D (some o)=some o'->lenO o'=lenO o:=by intro o o' h;cases o<;>simp only[yk,Option.some.injEq]at h<;>subst h<;>rfl
  have O:∀i,look G (st.h.map (yk D)) i=look G st.h i:=by
   intro i;unfold look;rw[hh];cases ho:hget st.h i with
   |none=>rfl
   |some o=>
    cases ho':yk D (some o)with
    |none=>cases o<;>simp[yk]at ho'
    |some o'=>simp only[ho'];cases G[i]? <;>simp[U o o' ho']
  have J:look G (st.h.map (yk D))=look G st.h:=funext O;refine⟨⟨⟨by simp[F.wrel.len],fun i o r ho hr=>?_,fun i j ri rj hij hi S=>F.wrel.sep i j ri rj hij (B i hi) (B j S),fun i r hi=>F.wrel.sepR i r (B i hi),F.wrel.ro⟩,
   ⟨F.since.keeps,F.since.rsub,F.since.rnew,fun i r b hi=>F.since.own i r b (B i hi),fun i him hi=>(O i).trans (F.since.same i him (B i hi)),by simpa using F.since.many⟩,fun t=>?_,F.defers,F.size⟩,
   O,sI,fun i o ho j S=>?_,fun t j S=>?_,fun i hi=>by rw[hh,hi]⟩
  ·obtain⟨o',h1,I⟩:=H i o ho;have Z:=F.wrel.obj i o' r h1 hr;rw[J];cases o' with
   |cells T cs=>simp only[yk,Option.some.injEq]at I;subst I;obtain⟨g1,g2,vs,g3,g4⟩:=Z;exact⟨g1,g2,vs,g3,zbO (fun _ _ h=>h) (fun _ _ _ h=>h) g4⟩
   |gens T ag z n cs=>simp only[yk,Option.some.injEq]at I;subst I;simp only[ObjRel]at Z⊢;exact RowAt.stable Z (fun _ _=>rfl) fun s hs=>zbO (fun _ _ h=>h) (fun _ _ _ h=>h) hs
   |_=>simp only[yk,Option.some.injEq]at I;subst I;exact Z
  ·show Rel _ _ (get (st.s.map fun(t,v)=>(t,ya D v)) t) _;rw[Kj,J];exact zkQ (fun _ _ h=>h) (fun _ _ _ h=>h) (F.slots t)
  ·obtain⟨o',h1,I⟩:=H i o ho;cases o' with
   |cells T cs=>simp only[yk,Option.some.injEq]at I;subst I;exact (za8 S).2
   |gens T ag z n cs=>simp only[yk,Option.some.injEq]at I;subst I;exact (za8 S).2
   |_=>simp only[yk,Option.some.injEq]at I;subst I;simp[idsO]at S
  ·have Y:j∈idsV (get (st.s.map fun(t,v)=>(t,ya D v)) t):=S;rw[Kj]at Y;exact (zhf Y).2
end
end Go.Am
