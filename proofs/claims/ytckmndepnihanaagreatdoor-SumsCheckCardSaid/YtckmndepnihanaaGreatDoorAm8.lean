/-
  A part of the proof of the laws.
-/
import Derived.Test.YtckmndepnihanaaGreatDoorAm7
namespace Go.Am
open Go Go.RowKit Go.Vc
def fpsAll:List Res→Heap→List Nat
 |r::G,some _::h=>r.fp++fpsAll G h
 |_::G,none::h=>fpsAll G h
 |_,_=>[]
theorem jk:∀{G:List Res}{h:Heap}{b:Nat},b∈fpsAll G h↔∃i r,live h i∧G[i]? =some r∧b∈r.fp
 |[],_,b=>by simp[fpsAll]
 |r::G,[],b=>by simp only[fpsAll,List.not_mem_nil,false_iff];rintro⟨i,r,⟨o,ho⟩,_⟩;simp[hget]at ho
 |r::G,some o::h,b=>by
  simp only[fpsAll,List.mem_append,jk (G:=G) (h:=h)];constructor
  ·rintro(hb|⟨i,r',⟨o',ho⟩,h2,h3⟩)
   ·exact⟨0,r,⟨o,rfl⟩,rfl,hb⟩
   ·exact⟨i+1,r',⟨o',ho⟩,by simpa using h2,h3⟩
  ·rintro⟨i,r',⟨o',ho⟩,h2,h3⟩;cases i with
   |zero=>simp at h2;subst h2;exact .inl h3
   |succ i=>exact .inr ⟨i,r',⟨o',ho⟩,by simpa using h2,h3⟩
 |r::G,none::h,b=>by
  simp only[fpsAll,jk (G:=G) (h:=h)];constructor
  ·rintro⟨i,r',⟨o',ho⟩,h2,h3⟩;exact⟨i+1,r',⟨o',ho⟩,by simpa using h2,h3⟩
  ·rintro⟨i,r',⟨o',ho⟩,h2,h3⟩;cases i with
   |zero=>simp[hget]at ho
   |succ i=>exact⟨i,r',⟨o',ho⟩,by simpa using h2,h3⟩
def SoundC(P:Program)(GP:Ro→Prop)(C:Con):Prop:=∀args h x r,C.dec args h=some x→C.spec x=some r→Proofs.Enters P C.f∧∀R G w vs,GP R→WRel R G h w→RelL (look G h) R args vs→Calls P C.f vs.toArray w fun e w'=>∃V R' G',e=.returned V∧WRel R' G' (C.enc x r).h w'∧Since ⟨R,look G h,fpsAll G h,w,h.length⟩ R' G' (C.enc x r).h w'∧Rel (look G' (C.enc x r).h) R' (C.enc x r).v V
theorem zcX{i:Nat}:∀{l:List Nat}{n p:Nat},qN i l n=some p→n≤p∧l[p-n]? =some i
 |[],_,_,h=>by cases h
 |j::r,n,p,h=>by
  simp only[qN]at h;split at h
  ·rename_i hb;cases h;exact⟨Nat.le_refl _,by simp[Nat.eq_of_beq_eq_true hb]⟩
  ·have:=zcX h;refine⟨by omega,?_⟩;rw[show p-n=(p-(n+1))+1 by omega];simpa using this.2
theorem JZ{i:Nat}{l:List Nat}{p:Nat}(h:qN i l 0=some p):l[p]? =some i:=by simpa using(zcX h).2
theorem X6{σ:Nat→Option Nat}{o o':AO}(h:JS σ o=some o'):lenO o'=lenO o:=by
 unfold JS at h;split at h
 ·split at h
  ·cases h;rfl
  ·cases h
 ·split at h
  ·cases h;rfl
  ·cases h
 ·cases h;rfl
theorem ObjRel.ren{L L':Lk}{R R':Ro}{σ:Nat→Option Nat}{r:Res}{o o':AO}{w:World}(h:ObjRel L R r o w)(ho:JS σ o=some o')(hR:∀b o,R b=some o→R' b=some o)
  (hσ:∀i j,σ i=some j→∀f,L i=some f→L' j=some f):ObjRel L' R' r o' w:=by
 unfold JS at ho;split at ho
 ·rename_i T cs;split at ho
  ·rename_i a ha;cases ho;obtain⟨h1,h2,vs,h3,h4⟩:=h;exact⟨h1,h2,vs,h3,qV hR hσ _ _ _ ha h4⟩
  ·cases ho
 ·rename_i T ag z n cs;split at ho
  ·rename_i a ha;cases ho;simp only[ObjRel]at h⊢;exact RowAt.stable h (fun _ _=>rfl) fun s hs=>qV hR hσ _ _ _ ha hs
  ·cases ho
 ·rename_i hne hne2;cases ho;have hids:idsO o=[]:=by
   cases o with
   |cells T cs=>exact absurd rfl (hne T cs)
   |gens T ag z n cs=>exact absurd rfl (hne2 T ag z n cs)
   |_=>rfl
  exact h.stable (fun _ _=>rfl) hR (by simp[hids])
theorem Zs{σ:Nat→Option Nat}{h:Heap}:∀{acc:List Nat}{v:Heap},Yn σ h acc=some v→v.length=acc.length∧
  ∀(p i:Nat),acc[p]? =some i→∃(o o':AO),hget h i=some o∧JS σ o=some o'∧v[p]? =some (some o')
 |[],v,e=>by cases e;exact⟨rfl,by simp⟩
 |i::r,v,e=>by
  simp only[Yn]at e;split at e
  ·rename_i o v' ho hv;split at e
   ·rename_i o' ho';cases e;obtain⟨h1,h2⟩:=Zs hv;refine⟨by simp[h1],fun p j hp=>?_⟩;cases p with
    |zero=>simp at hp;subst hp;exact⟨o,o',ho,ho',rfl⟩
    |succ p=>simpa using h2 p j (by simpa using hp)
   ·cases e
  ·cases e
theorem Wu{σ:Nat→Option Nat}:∀{h v:Heap},zfW σ h=some v→v.length=h.length∧∀(p:Nat),(h[p]? =some none→v[p]? =some none)∧∀(o:AO),h[p]? =some (some o)→∃(o':AO),JS σ o=some o'∧v[p]? =some (some o')
 |[],v,e=>by cases e;exact⟨rfl,by simp⟩
 |none::r,v,e=>by
  simp only[zfW]at e;split at e
  ·rename_i v' hv;cases e;obtain⟨h1,h2⟩:=Wu hv;refine⟨by simp[h1],fun p=>?_⟩;cases p with
   |zero=>exact⟨fun _=>rfl,fun o ho=>by simp at ho⟩
   |succ p=>simpa using h2 p
  ·cases e
 |some o::r,v,e=>by
  simp only[zfW]at e;split at e
  ·rename_i o' v' ho hv;cases e;obtain⟨h1,h2⟩:=Wu hv;refine⟨by simp[h1],fun p=>?_⟩;cases p with
   |zero=>exact⟨fun h=>by simp at h,fun o'' ho''=>by simp at ho'';subst ho'';exact⟨o',ho,rfl⟩⟩
   |succ p=>simpa using h2 p
  ·cases e
def qU:List Res→List Nat→List Res→List Res
 |G,i::r,o::s=>qU (G.set i o) r s
 |G,_,_=>G
theorem Zk:∀{ids:List Nat}{h ho:Heap},(jq h ids ho).length=h.length
 |[],h,ho=>by simp[jq]
 |i::r,h,[]=>by simp[jq]
 |i::r,h,o::s=>by rw[jq,Zk];simp
theorem Wa:∀{ids:List Nat}{G Go:List Res},(qU G ids Go).length=G.length
 |[],G,Go=>by cases Go<;>simp[qU]
 |i::r,G,[]=>by simp[qU]
 |i::r,G,o::s=>by rw[qU,Wa];simp
theorem yV:∀{ids:List Nat}{h ho:Heap}{i:Nat},i∉ids→(jq h ids ho)[i]? =h[i]?
 |[],h,ho,i,_=>by simp[jq]
 |j::r,h,[],i,_=>by simp[jq]
 |j::r,h,o::s,i,hi=>by simp only[List.mem_cons,not_or]at hi;rw[jq,yV hi.2,List.getElem?_set,if_neg (fun e=>hi.1 e.symm)]
theorem Z2:∀{ids:List Nat}{G Go:List Res}{i:Nat},i∉ids→(qU G ids Go)[i]? =G[i]?
 |[],G,Go,i,_=>by cases Go<;>simp[qU]
 |j::r,G,[],i,_=>by simp[qU]
 |j::r,G,o::s,i,hi=>by simp only[List.mem_cons,not_or]at hi;rw[qU,Z2 hi.2,List.getElem?_set,if_neg (fun e=>hi.1 e.symm)]
theorem zjm:∀{ids:List Nat}{h ho:Heap}{p i:Nat},ids.Nodup→ids[p]? =some i→i<h.length→p<ho.length→(jq h ids ho)[i]? =ho[p]?
 |[],_,_,_,_,_,hp,_,_=>by simp at hp
 |j::r,h,[],p,i,_,_,_,hl=>by simp at hl
 |j::r,h,o::s,p,i,hn,hp,hi,hl=>by
  have hn:=List.nodup_cons.1 hn;rw[jq];cases p with
  |zero=>simp only[List.getElem?_cons_zero,Option.some.injEq]at hp;subst hp;rw[yV hn.1,List.getElem?_set,if_pos rfl,if_pos hi];rfl
  |succ p=>simp only[List.getElem?_cons_succ]at hp⊢;exact zjm hn.2 hp (by simpa using hi) (by simpa using hl)
theorem zjn:∀{ids:List Nat}{G Go:List Res}{p i:Nat},ids.Nodup→ids[p]? =some i→i<G.length→p<Go.length→(qU G ids Go)[i]? =Go[p]?
 |[],_,_,_,_,_,hp,_,_=>by simp at hp
 |j::r,h,[],p,i,_,_,_,hl=>by simp at hl
 |j::r,h,o::s,p,i,hn,hp,hi,hl=>by
  have hn:=List.nodup_cons.1 hn;rw[qU];cases p with
  |zero=>simp only[List.getElem?_cons_zero,Option.some.injEq]at hp;subst hp;rw[Z2 hn.1,List.getElem?_set,if_pos rfl,if_pos hi];rfl
  |succ p=>simp only[List.getElem?_cons_succ]at hp⊢;exact zjn hn.2 hp (by simpa using hi) (by simpa using hl)
theorem Yd:∀{ids:List Nat}{ho:Heap}{i:Nat},i∈Js ids ho↔∃(p:Nat),ids[p]? =some i∧ho[p]? =some none
 |[],ho,i=>by simp[Js]
 |j::r,[],i=>by simp[Js]
 |j::r,none::s,i=>by
  simp only[Js,List.mem_cons,Yd (ids:=r) (ho:=s)];constructor
  ·rintro(rfl|⟨p,h1,h2⟩)
   ·exact⟨0,rfl,rfl⟩
   ·exact⟨p+1,by simpa using h1,by simpa using h2⟩
  ·rintro⟨p,h1,h2⟩;cases p with
   |zero=>simp at h1;exact .inl h1.symm
   |succ p=>exact .inr ⟨p,by simpa using h1,by simpa using h2⟩
 |j::r,some o::s,i=>by
  simp only[Js,Yd (ids:=r) (ho:=s)];constructor
  ·rintro⟨p,h1,h2⟩;exact⟨p+1,by simpa using h1,by simpa using h2⟩
  ·rintro⟨p,h1,h2⟩;cases p with
   |zero=>simp at h2
   |succ p=>exact⟨p,by simpa using h1,by simpa using h2⟩
theorem zcD{D:List Nat}{v:AV}{i:Nat}(h:i∈idsV (jM D v)):i∈idsV v∧i∉D:=by
 unfold jM at h;split at h
 ·simp[idsV]at h
 ·rename_i ha;refine⟨h,fun hd=>?_⟩;have:(idsV v).any (fun i=>memN i D)=true:=List.any_eq_true.2 ⟨i,h,zy.2 hd⟩;rw[ha]at this;cases this
theorem Xz{D:List Nat}:∀{l:List AV}{i:Nat},i∈idsL (l.map (jM D))→i∈idsL l∧i∉D
 |[],i,h=>by simp[idsL]at h
 |v::r,i,h=>by
  simp only[List.map_cons,idsL,List.mem_append]at h⊢;rcases h with h|h
  ·have:=zcD h;exact⟨.inl this.1,this.2⟩
  ·have:=Xz h;exact⟨.inr this.1,this.2⟩
theorem Ye{D:List Nat}:∀{s:Slots}{t:Nat},get (s.map fun(t,v)=>(t,jM D v)) t=jM D (get s t)
 |[],t=>by simp[get,jM,idsV]
 |(x,v)::r,t=>by
  simp only[List.map_cons,get];split
  ·rfl
  ·exact Ye
section
variable {P : Program} {c : Base} {n : Nat} {R : Ro} {G : List Res} {st : St} {a : Act} {w w' : World}
theorem Fit.scrub(F:Fit c n R G st a w)(D:List Nat):Fit c n R G (scrub D st) a w∧(∀i,look G (scrub D st).h i=look G st.h i)∧(scrub D st).h.length=st.h.length∧
  (∀i o,hget (scrub D st).h i=some o→∀j∈idsO o,j∉D)∧(∀t,∀j∈idsV (get (scrub D st).s t),j∉D)∧(∀i,hget st.h i=none→hget (scrub D st).h i=none):=by
 cases D with
 |nil=>exact⟨F,fun _=>rfl,rfl,by simp,by simp,fun _ h=>h⟩
 |cons d D=>
  have e:Am.scrub (d::D) st=⟨st.s.map fun(t,v)=>(t,jM (d::D) v),st.h.map (jU (d::D))⟩:=rfl;rw[e];generalize d::D=D;have hh:∀i,hget (st.h.map (jU D)) i=match hget st.h i with|some o=>jU D (some o)|none=>none:=by
   intro i;unfold hget;rw[List.getElem?_map];cases st.h[i]? with
   |none=>rfl
   |some o=>cases o with
    |none=>rfl
    |some o=>cases o<;>rfl
  have hsome:∀i o',hget (st.h.map (jU D)) i=some o'→∃o,hget st.h i=some o∧jU D (some o)=some o':=by
   intro i o' h;rw[hh]at h;split at h
   ·rename_i o ho;exact⟨o,ho,h⟩
   ·cases h
  have hlive:∀i,live (st.h.map (jU D)) i→live st.h i:=fun i ⟨o,ho⟩=>let⟨o',h,_⟩:=hsome i o ho;⟨o',h⟩
  have hlen:∀o o',jU D (some o)=some o'→lenO o'=lenO o:=by intro o o' h;cases o<;>simp only[jU,Option.some.injEq]at h<;>subst h<;>rfl
  have hlk:∀i,look G (st.h.map (jU D)) i=look G st.h i:=by
   intro i;unfold look;rw[hh];cases ho:hget st.h i with
   |none=>rfl
   |some o=>
    cases ho':jU D (some o)with
    |none=>cases o<;>simp[jU]at ho'
    |some o'=>simp only[ho'];cases G[i]? <;>simp[hlen o o' ho']
  have hlk':look G (st.h.map (jU D))=look G st.h:=funext hlk;refine⟨⟨⟨by simp[F.wrel.len],fun i o r ho hr=>?_,fun i j ri rj hij hi hj=>F.wrel.sep i j ri rj hij (hlive i hi) (hlive j hj),fun i r hi=>F.wrel.sepR i r (hlive i hi),F.wrel.ro⟩,
   ⟨F.since.keeps,F.since.rsub,F.since.rnew,fun i r b hi=>F.since.own i r b (hlive i hi),fun i him hi=>(hlk i).trans (F.since.same i him (hlive i hi)),by simpa using F.since.many⟩,fun t=>?_,F.defers,F.size⟩,
   hlk,by simp,fun i o ho j hj=>?_,fun t j hj=>?_,fun i hi=>by rw[hh,hi]⟩
  ·obtain⟨o',h1,h2⟩:=hsome i o ho;have h3:=F.wrel.obj i o' r h1 hr;rw[hlk'];cases o' with
   |cells T cs=>simp only[jU,Option.some.injEq]at h2;subst h2;obtain⟨g1,g2,vs,g3,g4⟩:=h3;exact⟨g1,g2,vs,g3,XY (fun _ _ h=>h) (fun _ _ _ h=>h) g4⟩
   |gens T ag z n cs=>simp only[jU,Option.some.injEq]at h2;subst h2;simp only[ObjRel]at h3⊢;exact RowAt.stable h3 (fun _ _=>rfl) fun s hs=>XY (fun _ _ h=>h) (fun _ _ _ h=>h) hs
   |_=>simp only[jU,Option.some.injEq]at h2;subst h2;exact h3
  ·show Rel _ _ (get (st.s.map fun(t,v)=>(t,jM D v)) t) _;rw[Ye,hlk'];exact zfn (fun _ _ h=>h) (fun _ _ _ h=>h) (F.slots t)
  ·obtain⟨o',h1,h2⟩:=hsome i o ho;cases o' with
   |cells T cs=>simp only[jU,Option.some.injEq]at h2;subst h2;exact (Xz hj).2
   |gens T ag z n cs=>simp only[jU,Option.some.injEq]at h2;subst h2;exact (Xz hj).2
   |_=>simp only[jU,Option.some.injEq]at h2;subst h2;simp[idsO]at hj
  ·have hj':j∈idsV (get (st.s.map fun(t,v)=>(t,jM D v)) t):=hj;rw[Ye]at hj';exact (zcD hj').2
end
end Go.Am
