/-
  A part of the proof of the laws.
-/
import Derived.Test.YtgehgjniceckfaaGreatDoorAm7
namespace Go.Am
open Go Go.RowKit Go.Vc
def fpsAll:List Res→Heap→List Nat
 |r::G,some _::h=>r.fp++fpsAll G h
 |_::G,none::h=>fpsAll G h
 |_,_=>[]
theorem jo:∀{G:List Res}{h:Heap}{b:Nat},b∈fpsAll G h↔∃i r,live h i∧G[i]? =some r∧b∈r.fp
 |[],_,b=>by simp[fpsAll]
 |r::G,[],b=>by simp only[fpsAll,List.not_mem_nil,false_iff];rintro⟨i,r,⟨o,ho⟩,_⟩;simp[hget]at ho
 |r::G,some o::h,b=>by
  simp only[fpsAll,List.mem_append,jo (G:=G) (h:=h)];constructor
  ·rintro(hb|⟨i,r',⟨o',ho⟩,h2,h3⟩)
   ·exact⟨0,r,⟨o,rfl⟩,rfl,hb⟩
   ·exact⟨i+1,r',⟨o',ho⟩,by simpa using h2,h3⟩
  ·rintro⟨i,r',⟨o',ho⟩,h2,h3⟩;cases i with
   |zero=>simp at h2;subst h2;exact .inl h3
   |succ i=>exact .inr ⟨i,r',⟨o',ho⟩,by simpa using h2,h3⟩
 |r::G,none::h,b=>by
  simp only[fpsAll,jo (G:=G) (h:=h)];constructor
  ·rintro⟨i,r',⟨o',ho⟩,h2,h3⟩;exact⟨i+1,r',⟨o',ho⟩,by simpa using h2,h3⟩
  ·rintro⟨i,r',⟨o',ho⟩,h2,h3⟩;cases i with
   |zero=>simp[hget]at ho
   |succ i=>exact⟨i,r',⟨o',ho⟩,by simpa using h2,h3⟩
def SoundC(P:Program)(GP:Ro→Prop)(C:Con):Prop:=∀args h x r,C.dec args h=some x→C.spec x=some r→Proofs.Enters P C.f∧∀R G w vs,GP R→WRel R G h w→RelL (look G h) R args vs→Calls P C.f vs.toArray w fun e w'=>∃V R' G',e=.returned V∧WRel R' G' (C.enc x r).h w'∧Since ⟨R,look G h,fpsAll G h,w,h.length⟩ R' G' (C.enc x r).h w'∧Rel (look G' (C.enc x r).h) R' (C.enc x r).v V
theorem zcl{i:Nat}:∀{l:List Nat}{n p:Nat},qW i l n=some p→n≤p∧l[p-n]? =some i
 |[],_,_,h=>by cases h
 |j::r,n,p,h=>by
  simp only[qW]at h;split at h
  ·rename_i hb;cases h;exact⟨Nat.le_refl _,by simp[Nat.eq_of_beq_eq_true hb]⟩
  ·have:=zcl h;refine⟨by omega,?_⟩;rw[show p-n=(p-(n+1))+1 by omega];simpa using this.2
theorem JF{i:Nat}{l:List Nat}{p:Nat}(h:qW i l 0=some p):l[p]? =some i:=by simpa using(zcl h).2
theorem Xo{σ:Nat→Option Nat}{o o':AO}(h:JC σ o=some o'):lenO o'=lenO o:=by
 unfold JC at h;split at h
 ·split at h
  ·cases h;rfl
  ·cases h
 ·split at h
  ·cases h;rfl
  ·cases h
 ·cases h;rfl
theorem ObjRel.ren{L L':Lk}{R R':Ro}{σ:Nat→Option Nat}{r:Res}{o o':AO}{w:World}(h:ObjRel L R r o w)(ho:JC σ o=some o')(hR:∀b o,R b=some o→R' b=some o)
  (hσ:∀i j,σ i=some j→∀f,L i=some f→L' j=some f):ObjRel L' R' r o' w:=by
 unfold JC at ho;split at ho
 ·rename_i T cs;split at ho
  ·rename_i a ha;cases ho;obtain⟨h1,h2,vs,h3,h4⟩:=h;exact⟨h1,h2,vs,h3,Zc hR hσ _ _ _ ha h4⟩
  ·cases ho
 ·rename_i T ag z n cs;split at ho
  ·rename_i a ha;cases ho;simp only[ObjRel]at h⊢;exact RowAt.stable h (fun _ _=>rfl) fun s hs=>Zc hR hσ _ _ _ ha hs
  ·cases ho
 ·rename_i hne hne2;cases ho;have hids:idsO o=[]:=by
   cases o with
   |cells T cs=>exact absurd rfl (hne T cs)
   |gens T ag z n cs=>exact absurd rfl (hne2 T ag z n cs)
   |_=>rfl
  exact h.stable (fun _ _=>rfl) hR (by simp[hids])
theorem Zu{σ:Nat→Option Nat}{h:Heap}:∀{acc:List Nat}{v:Heap},JW σ h acc=some v→v.length=acc.length∧
  ∀(p i:Nat),acc[p]? =some i→∃(o o':AO),hget h i=some o∧JC σ o=some o'∧v[p]? =some (some o')
 |[],v,e=>by cases e;exact⟨rfl,by simp⟩
 |i::r,v,e=>by
  simp only[JW]at e;split at e
  ·rename_i o v' ho hv;split at e
   ·rename_i o' ho';cases e;obtain⟨h1,h2⟩:=Zu hv;refine⟨by simp[h1],fun p j hp=>?_⟩;cases p with
    |zero=>simp at hp;subst hp;exact⟨o,o',ho,ho',rfl⟩
    |succ p=>simpa using h2 p j (by simpa using hp)
   ·cases e
  ·cases e
theorem Vn{σ:Nat→Option Nat}:∀{h v:Heap},zfi σ h=some v→v.length=h.length∧∀(p:Nat),(h[p]? =some none→v[p]? =some none)∧∀(o:AO),h[p]? =some (some o)→∃(o':AO),JC σ o=some o'∧v[p]? =some (some o')
 |[],v,e=>by cases e;exact⟨rfl,by simp⟩
 |none::r,v,e=>by
  simp only[zfi]at e;split at e
  ·rename_i v' hv;cases e;obtain⟨h1,h2⟩:=Vn hv;refine⟨by simp[h1],fun p=>?_⟩;cases p with
   |zero=>exact⟨fun _=>rfl,fun o ho=>by simp at ho⟩
   |succ p=>simpa using h2 p
  ·cases e
 |some o::r,v,e=>by
  simp only[zfi]at e;split at e
  ·rename_i o' v' ho hv;cases e;obtain⟨h1,h2⟩:=Vn hv;refine⟨by simp[h1],fun p=>?_⟩;cases p with
   |zero=>exact⟨fun h=>by simp at h,fun o'' ho''=>by simp at ho'';subst ho'';exact⟨o',ho,rfl⟩⟩
   |succ p=>simpa using h2 p
  ·cases e
def Zb:List Res→List Nat→List Res→List Res
 |G,i::r,o::s=>Zb (G.set i o) r s
 |G,_,_=>G
theorem Zo:∀{ids:List Nat}{h ho:Heap},(jH h ids ho).length=h.length
 |[],h,ho=>by simp[jH]
 |i::r,h,[]=>by simp[jH]
 |i::r,h,o::s=>by rw[jH,Zo];simp
theorem K6:∀{ids:List Nat}{G Go:List Res},(Zb G ids Go).length=G.length
 |[],G,Go=>by cases Go<;>simp[Zb]
 |i::r,G,[]=>by simp[Zb]
 |i::r,G,o::s=>by rw[Zb,K6];simp
theorem qm:∀{ids:List Nat}{h ho:Heap}{i:Nat},i∉ids→(jH h ids ho)[i]? =h[i]?
 |[],h,ho,i,_=>by simp[jH]
 |j::r,h,[],i,_=>by simp[jH]
 |j::r,h,o::s,i,hi=>by simp only[List.mem_cons,not_or]at hi;rw[jH,qm hi.2,List.getElem?_set,if_neg (fun e=>hi.1 e.symm)]
theorem Ja:∀{ids:List Nat}{G Go:List Res}{i:Nat},i∉ids→(Zb G ids Go)[i]? =G[i]?
 |[],G,Go,i,_=>by cases Go<;>simp[Zb]
 |j::r,G,[],i,_=>by simp[Zb]
 |j::r,G,o::s,i,hi=>by simp only[List.mem_cons,not_or]at hi;rw[Zb,Ja hi.2,List.getElem?_set,if_neg (fun e=>hi.1 e.symm)]
theorem zih:∀{ids:List Nat}{h ho:Heap}{p i:Nat},ids.Nodup→ids[p]? =some i→i<h.length→p<ho.length→(jH h ids ho)[i]? =ho[p]?
 |[],_,_,_,_,_,hp,_,_=>by simp at hp
 |j::r,h,[],p,i,_,_,_,hl=>by simp at hl
 |j::r,h,o::s,p,i,hn,hp,hi,hl=>by
  have hn:=List.nodup_cons.1 hn;rw[jH];cases p with
  |zero=>simp only[List.getElem?_cons_zero,Option.some.injEq]at hp;subst hp;rw[qm hn.1,List.getElem?_set,if_pos rfl,if_pos hi];rfl
  |succ p=>simp only[List.getElem?_cons_succ]at hp⊢;exact zih hn.2 hp (by simpa using hi) (by simpa using hl)
theorem zii:∀{ids:List Nat}{G Go:List Res}{p i:Nat},ids.Nodup→ids[p]? =some i→i<G.length→p<Go.length→(Zb G ids Go)[i]? =Go[p]?
 |[],_,_,_,_,_,hp,_,_=>by simp at hp
 |j::r,h,[],p,i,_,_,_,hl=>by simp at hl
 |j::r,h,o::s,p,i,hn,hp,hi,hl=>by
  have hn:=List.nodup_cons.1 hn;rw[Zb];cases p with
  |zero=>simp only[List.getElem?_cons_zero,Option.some.injEq]at hp;subst hp;rw[Ja hn.1,List.getElem?_set,if_pos rfl,if_pos hi];rfl
  |succ p=>simp only[List.getElem?_cons_succ]at hp⊢;exact zii hn.2 hp (by simpa using hi) (by simpa using hl)
theorem JR:∀{ids:List Nat}{ho:Heap}{i:Nat},i∈Ju ids ho↔∃(p:Nat),ids[p]? =some i∧ho[p]? =some none
 |[],ho,i=>by simp[Ju]
 |j::r,[],i=>by simp[Ju]
 |j::r,none::s,i=>by
  simp only[Ju,List.mem_cons,JR (ids:=r) (ho:=s)];constructor
  ·rintro(rfl|⟨p,h1,h2⟩)
   ·exact⟨0,rfl,rfl⟩
   ·exact⟨p+1,by simpa using h1,by simpa using h2⟩
  ·rintro⟨p,h1,h2⟩;cases p with
   |zero=>simp at h1;exact .inl h1.symm
   |succ p=>exact .inr ⟨p,by simpa using h1,by simpa using h2⟩
 |j::r,some o::s,i=>by
  simp only[Ju,JR (ids:=r) (ho:=s)];constructor
  ·rintro⟨p,h1,h2⟩;exact⟨p+1,by simpa using h1,by simpa using h2⟩
  ·rintro⟨p,h1,h2⟩;cases p with
   |zero=>simp at h2
   |succ p=>exact⟨p,by simpa using h1,by simpa using h2⟩
theorem zb3{D:List Nat}{v:AV}{i:Nat}(h:i∈idsV (j8 D v)):i∈idsV v∧i∉D:=by
 unfold j8 at h;split at h
 ·simp[idsV]at h
 ·rename_i ha;refine⟨h,fun hd=>?_⟩;have:(idsV v).any (fun i=>memN i D)=true:=List.any_eq_true.2 ⟨i,h,zP.2 hd⟩;rw[ha]at this;cases this
theorem QS{D:List Nat}:∀{l:List AV}{i:Nat},i∈idsL (l.map (j8 D))→i∈idsL l∧i∉D
 |[],i,h=>by simp[idsL]at h
 |v::r,i,h=>by
  simp only[List.map_cons,idsL,List.mem_append]at h⊢;rcases h with h|h
  ·have:=zb3 h;exact⟨.inl this.1,this.2⟩
  ·have:=QS h;exact⟨.inr this.1,this.2⟩
theorem JS{D:List Nat}:∀{s:Slots}{t:Nat},get (s.map fun(t,v)=>(t,j8 D v)) t=j8 D (get s t)
 |[],t=>by simp[get,j8,idsV]
 |(x,v)::r,t=>by
  simp only[List.map_cons,get];split
  ·rfl
  ·exact JS
section
variable {P : Program} {c : Base} {n : Nat} {R : Ro} {G : List Res} {st : St} {a : Act} {w w' : World}
theorem Fit.scrub(F:Fit c n R G st a w)(D:List Nat):Fit c n R G (scrub D st) a w∧(∀i,look G (scrub D st).h i=look G st.h i)∧(scrub D st).h.length=st.h.length∧
  (∀i o,hget (scrub D st).h i=some o→∀j∈idsO o,j∉D)∧(∀t,∀j∈idsV (get (scrub D st).s t),j∉D)∧(∀i,hget st.h i=none→hget (scrub D st).h i=none):=by
 cases D with
 |nil=>exact⟨F,fun _=>rfl,rfl,by simp,by simp,fun _ h=>h⟩
 |cons d D=>
  have e:Am.scrub (d::D) st=⟨st.s.map fun(t,v)=>(t,j8 (d::D) v),st.h.map (ye (d::D))⟩:=rfl;rw[e];generalize d::D=D;have hh:∀i,hget (st.h.map (ye D)) i=match hget st.h i with|some o=>ye D (some o)|none=>none:=by
   intro i;unfold hget;rw[List.getElem?_map];cases st.h[i]? with
   |none=>rfl
   |some o=>cases o with
    |none=>rfl
    |some o=>cases o<;>rfl
  have hsome:∀i o',hget (st.h.map (ye D)) i=some o'→∃o,hget st.h i=some o∧ye D (some o)=some o':=by
   intro i o' h;rw[hh]at h;split at h
   ·rename_i o ho;exact⟨o,ho,h⟩
   ·cases h
  have hlive:∀i,live (st.h.map (ye D)) i→live st.h i:=fun i ⟨o,ho⟩=>let⟨o',h,_⟩:=hsome i o ho;⟨o',h⟩
  have hlen:∀o o',ye D (some o)=some o'→lenO o'=lenO o:=by intro o o' h;cases o<;>simp only[ye,Option.some.injEq]at h<;>subst h<;>rfl
  have hlk:∀i,look G (st.h.map (ye D)) i=look G st.h i:=by
   intro i;unfold look;rw[hh];cases ho:hget st.h i with
   |none=>rfl
   |some o=>
    cases ho':ye D (some o)with
    |none=>cases o<;>simp[ye]at ho'
    |some o'=>simp only[ho'];cases G[i]? <;>simp[hlen o o' ho']
  have hlk':look G (st.h.map (ye D))=look G st.h:=funext hlk;refine⟨⟨⟨by simp[F.wrel.len],fun i o r ho hr=>?_,fun i j ri rj hij hi hj=>F.wrel.sep i j ri rj hij (hlive i hi) (hlive j hj),fun i r hi=>F.wrel.sepR i r (hlive i hi),F.wrel.ro⟩,
   ⟨F.since.keeps,F.since.rsub,F.since.rnew,fun i r b hi=>F.since.own i r b (hlive i hi),fun i him hi=>(hlk i).trans (F.since.same i him (hlive i hi)),by simpa using F.since.many⟩,fun t=>?_,F.defers,F.size⟩,
   hlk,by simp,fun i o ho j hj=>?_,fun t j hj=>?_,fun i hi=>by rw[hh,hi]⟩
  ·obtain⟨o',h1,h2⟩:=hsome i o ho;have h3:=F.wrel.obj i o' r h1 hr;rw[hlk'];cases o' with
   |cells T cs=>simp only[ye,Option.some.injEq]at h2;subst h2;obtain⟨g1,g2,vs,g3,g4⟩:=h3;exact⟨g1,g2,vs,g3,Xi (fun _ _ h=>h) (fun _ _ _ h=>h) g4⟩
   |gens T ag z n cs=>simp only[ye,Option.some.injEq]at h2;subst h2;simp only[ObjRel]at h3⊢;exact RowAt.stable h3 (fun _ _=>rfl) fun s hs=>Xi (fun _ _ h=>h) (fun _ _ _ h=>h) hs
   |_=>simp only[ye,Option.some.injEq]at h2;subst h2;exact h3
  ·show Rel _ _ (get (st.s.map fun(t,v)=>(t,j8 D v)) t) _;rw[JS,hlk'];exact zeY (fun _ _ h=>h) (fun _ _ _ h=>h) (F.slots t)
  ·obtain⟨o',h1,h2⟩:=hsome i o ho;cases o' with
   |cells T cs=>simp only[ye,Option.some.injEq]at h2;subst h2;exact (QS hj).2
   |gens T ag z n cs=>simp only[ye,Option.some.injEq]at h2;subst h2;exact (QS hj).2
   |_=>simp only[ye,Option.some.injEq]at h2;subst h2;simp[idsO]at hj
  ·have hj':j∈idsV (get (st.s.map fun(t,v)=>(t,j8 D v)) t):=hj;rw[JS]at hj';exact (zb3 hj').2
end
end Go.Am
