/-
  A part of the proof of the laws.
-/
import Derived.Test.YtckmndepnihanaaGreatDoorAm8
namespace Go.Am
open Go Go.RowKit Go.Vc
theorem zdN{R:Type}{args:List AV}{h:Heap}{k:Out→Option R}{f:FuncId}{r:R}:∀{Γ:List Con},Yv args h k f Γ=some r→
  ∃C∈Γ,C.f=f∧∃x b,C.dec args h=some x∧C.spec x=some b∧k (C.enc x b)=some r
 |[],e=>by cases e
 |C::Γ,e=>by
  have tail:Yv args h k f Γ=some r→∃C'∈C::Γ,C'.f=f∧∃x b,C'.dec args h=some x∧C'.spec x=some b∧k (C'.enc x b)=some r:=fun e=>let⟨C',h1,h2⟩:=zdN e;⟨C',List.mem_cons_of_mem _ h1,h2⟩
  simp only[Yv]at e;split at e
  ·rename_i hb;split at e
   ·rename_i x hx;obtain⟨b,h1,h2,_⟩:=C.hgo _ _ _ _ e;exact⟨C,List.mem_cons_self,Nat.eq_of_beq_eq_true hb,x,b,hx,h1,h2⟩
   ·exact tail e
  ·exact tail e
theorem z6{h:Heap}{i:Nat}{o:AO}:hget h i=some o↔h[i]? =some (some o):=by
 unfold hget;cases hi:h[i]? with
 |none=>simp
 |some x=>cases x<;>simp
theorem ze2{h:Heap}{i:Nat}(e:h[i]? =some none):hget h i=none:=by unfold hget;simp[e]
section
variable {P : Program} {c : Base} {n : Nat} {R : Ro} {G : List Res} {st : St} {a : Act} {w : World}
theorem zsc(F:Fit c n R G st a w){acc:List Nat}(hn:acc.Nodup){hv:Heap}(hh:Yn (fun i=>qN i acc 0) st.h acc=some hv):
  ∃Gv:List Res,Gv.length=acc.length∧(∀(p i:Nat),acc[p]? =some i→Gv[p]? =G[i]?)∧WRel R Gv hv w∧(∀i j,qN i acc 0=some j→∀f,look G st.h i=some f→look Gv hv j=some f)∧
   (∀(p i:Nat),acc[p]? =some i→look Gv hv p=look G st.h i)∧(∀b,b∈fpsAll Gv hv↔∃i r,i∈acc∧live st.h i∧G[i]? =some r∧b∈r.fp):=by
 obtain⟨hl,hs⟩:=Zs hh;have hlive:∀i∈acc,live st.h i:=fun i hi=>by obtain⟨p,hp⟩:=List.mem_iff_getElem?.1 hi;obtain⟨o,o',h1,_⟩:=hs p i hp;exact⟨o,h1⟩
 have hres:∀i∈acc,∃r,G[i]? =some r:=fun i hi=>F.wrel.res (hlive i hi)
 let Gv:List Res:=acc.map fun i=>G.getD i ⟨0,false,0,[]⟩
 have hG:∀(p i:Nat),acc[p]? =some i→Gv[p]? =G[i]? :=by intro p i hp;obtain⟨r,hr⟩:=hres i (List.mem_of_getElem? hp);simp only[Gv,List.getElem?_map,hp,Option.map_some,List.getD_eq_getElem?_getD,hr,Option.getD_some]
 have hlk:∀(p i:Nat),acc[p]? =some i→look Gv hv p=look G st.h i:=by intro p i hp;obtain⟨o,o',h1,h2,h3⟩:=hs p i hp;obtain⟨r,hr⟩:=hres i (List.mem_of_getElem? hp);rw[zW h1 hr,zW (z6.2 h3) ((hG p i hp).trans hr),X6 h2]
 have hσ:∀i j,qN i acc 0=some j→∀f,look G st.h i=some f→look Gv hv j=some f:=fun i j hj f hf=>(hlk j i (JZ hj)).trans hf
 have hmem:∀(p:Nat)(o:AO),hget hv p=some o→∃i,acc[p]? =some i:=by intro p o ho;have:=(List.getElem?_eq_some_iff.1 (z6.1 ho)).1;rw[hl]at this;exact⟨acc[p],List.getElem?_eq_getElem this⟩
 refine⟨Gv,by simp[Gv],hG,⟨by simp[Gv,hl],fun p o r ho hr=>?_,fun p q rp rq hpq hp hq hrp hrq b hb hm=>?_,fun p r hp hr b hb=>?_,F.wrel.ro⟩,hσ,hlk,fun b=>?_⟩
 ·obtain⟨i,hi⟩:=hmem p o ho;obtain⟨oi,o',h1,h2,h3⟩:=hs p i hi;rw[z6,h3]at ho;cases ho;rw[hG p i hi]at hr;exact (F.wrel.obj i oi r h1 hr).ren h2 (fun _ _ h=>h) hσ
 ·obtain⟨op,hop⟩:=hp;obtain⟨oq,hoq⟩:=hq;obtain⟨i,hi⟩:=hmem p op hop;obtain⟨j,hj⟩:=hmem q oq hoq;rw[hG p i hi]at hrp;rw[hG q j hj]at hrq;refine F.wrel.sep i j rp rq (fun e=>hpq ?_) (hlive i (List.mem_of_getElem? hi)) (hlive j (List.mem_of_getElem? hj)) hrp hrq b hb hm;subst e;have h1:=(List.getElem?_eq_some_iff.1 hi)
  have h2:=(List.getElem?_eq_some_iff.1 hj)
  exact (List.getElem_inj hn).1 (h1.2.trans h2.2.symm)
 ·obtain⟨o,ho⟩:=hp;obtain⟨i,hi⟩:=hmem p o ho;rw[hG p i hi]at hr;exact F.wrel.sepR i r (hlive i (List.mem_of_getElem? hi)) hr b hb
 ·rw[jk];constructor
  ·rintro⟨p,r,⟨o,ho⟩,hr,hb⟩;obtain⟨i,hi⟩:=hmem p o ho;rw[hG p i hi]at hr;exact⟨i,r,List.mem_of_getElem? hi,hlive i (List.mem_of_getElem? hi),hr,hb⟩
  ·rintro⟨i,r,hi,hli,hr,hb⟩;obtain⟨p,hp⟩:=List.mem_iff_getElem?.1 hi;obtain⟨o,o',h1,h2,h3⟩:=hs p i hp;exact⟨p,r,⟨o',z6.2 h3⟩,(hG p i hp).trans hr,hb⟩
theorem zvV{R':Ro}{Gv Go:List Res}{hv:Heap}{w':World}{acc:List Nat}{nid q:Nat}{ho ho':Heap}(F:Fit c n R G st a w)(hm:c.m≤nid)(hfree:FreeR st.h nid q)(hn:acc.Nodup)
  (hlenO:ho.length=acc.length+q) (hq:nid+q≤st.h.length) (hlive:∀i∈acc,live st.h i)
  (hlk:∀(p i:Nat),acc[p]? =some i→look Gv hv p=look G st.h i) (hlv:hv.length=acc.length)
  (hX:∀b,b∈fpsAll Gv hv↔∃i r,i∈acc∧live st.h i∧G[i]? =some r∧b∈r.fp)
  (W:WRel R' Go ho w') (S:Since ⟨R,look Gv hv,fpsAll Gv hv,w,hv.length⟩ R' Go ho w') (hr:zfW (Xl acc acc.length nid) ho=some ho')
  (hdep:∀i o,i∉acc→hget st.h i=some o→∀j∈idsO o,j∉Js (acc++newIds nid q) ho') (hsl:∀t,∀j∈idsV (get st.s t),j∉Js (acc++newIds nid q) ho'):
  Fit c n R' (qU G (acc++newIds nid q) Go) ⟨st.s,jq st.h (acc++newIds nid q) ho'⟩ a w'∧
   (∀i j,Xl acc acc.length nid i=some j→∀f,look Go ho i=some f→look (qU G (acc++newIds nid q) Go) (jq st.h (acc++newIds nid q) ho') j=some f)∧
   ZO nid q st.h (jq st.h (acc++newIds nid q) ho'):=by
 obtain⟨hlr,hrs⟩:=Wu hr;generalize hids:acc++newIds nid q=ids at*
 have hil:ids.length=ho.length:=by rw[←hids,hlenO];simp[newIds]
 have hnidL:∀i∈newIds nid q,nid≤i∧i<nid+q:=by intro i hi;simp only[newIds,List.mem_map,List.mem_range]at hi;obtain⟨x,hx,rfl⟩:=hi;omega
 have haccL:∀i∈acc,¬(nid≤i∧i<nid+q):=by intro i hi ⟨h1,h2⟩;obtain⟨o,ho⟩:=hlive i hi;rw[hfree i h1 h2]at ho;cases ho
 have hnd:ids.Nodup:=by
  rw[←hids,List.nodup_append];refine⟨hn,?_,fun x hx y hy e=>?_⟩
  ·rw[List.Nodup,List.pairwise_iff_getElem];intro i j hi hj hij;simp only[newIds,List.getElem_map,List.getElem_range];omega
  ·subst e;exact haccL x hx (hnidL x hy)
 have hlt:∀i∈ids,i<st.h.length:=by
  intro i hi;rw[←hids,List.mem_append]at hi;rcases hi with hi|hi
  ·exact jh (hlive i hi)
  ·have:=(hnidL i hi).2;omega
 have hltG:∀i∈ids,i<G.length:=fun i hi=>by rw[F.wrel.len];exact hlt i hi
 have hGl:Go.length=ho.length:=W.len;have hat:∀(p i:Nat),ids[p]? =some i→(jq st.h ids ho')[i]? =ho'[p]? ∧(qU G ids Go)[i]? =Go[p]? :=by intro p i hp;have hpl:=(List.getElem?_eq_some_iff.1 hp).1;exact⟨zjm hnd hp (hlt i (List.mem_of_getElem? hp)) (by omega),zjn hnd hp (hltG i (List.mem_of_getElem? hp)) (by omega)⟩
 have hget_at:∀(p i:Nat),ids[p]? =some i→(∀o',hget (jq st.h ids ho') i=some o'→∃o,hget ho p=some o∧JS (Xl acc acc.length nid) o=some o')∧
   (∀o,hget ho p=some o→∃o',hget (jq st.h ids ho') i=some o'∧JS (Xl acc acc.length nid) o=some o'):=by
  intro p i hp;have hpl:=(List.getElem?_eq_some_iff.1 hp).1;have h1:=(hat p i hp).1;have h2:=hrs p;have hex:∃x,ho[p]? =some x:=⟨ho[p]'(by omega),List.getElem?_eq_getElem (by omega)⟩
  obtain⟨x,hx⟩:=hex;cases x with
  |none=>
   have h3:=h2.1 hx;refine⟨fun o' ho''=>?_,fun o ho''=>?_⟩
   ·rw[z6,h1,h3]at ho'';cases ho''
   ·rw[z6,hx]at ho'';cases ho''
  |some o=>
   obtain⟨o1,h3,h4⟩:=h2.2 o hx;refine⟨fun o' ho''=>?_,fun o2 ho''=>?_⟩
   ·rw[z6,h1,h4]at ho'';cases ho'';exact⟨o,z6.2 hx,h3⟩
   ·rw[z6,hx]at ho'';cases ho'';exact⟨o1,by rw[z6,h1,h4],h3⟩
 have hbackN:∀i j,Xl acc acc.length nid i=some j→i<ho.length→ids[i]? =some j:=by
  intro i j hb hi;unfold Xl at hb;rw[←hids];split at hb
  ·rename_i hlt';have:i+1≤acc.length:=by simpa[Nat.blt]using hlt'
   rw[List.getElem?_append_left (by omega)];exact hb
  ·rename_i hlt';have hge:acc.length≤i:=by
    rcases Nat.lt_or_ge i acc.length with h|h
    ·have:Nat.blt i acc.length=true:=by simp[Nat.blt];omega
     rw[hlt']at this;cases this
    ·exact h
   cases hb;rw[List.getElem?_append_right hge];simp only[newIds,List.getElem?_map];rw[List.getElem?_range (by omega)];rfl
 have hlkN:∀i j,Xl acc acc.length nid i=some j→∀f,look Go ho i=some f→look (qU G ids Go) (jq st.h ids ho') j=some f:=by intro i j hb f hf;obtain⟨o,r,h1,h2,rfl⟩:=zr hf;have hi:=jh ⟨o,h1⟩;have hj:=hbackN i j hb hi;obtain⟨o',h3,h4⟩:=(hget_at i j hj).2 o h1;rw[zW h3 (((hat i j hj).2).trans h2),X6 h4]
 have hstay:∀j,j∉Js ids ho'→∀f,look G st.h j=some f→look (qU G ids Go) (jq st.h ids ho') j=some f:=by
  intro j hj f hf;by_cases hji:j∈ids
  ·obtain⟨p,hp⟩:=List.mem_iff_getElem?.1 hji;have hpl:=(List.getElem?_eq_some_iff.1 hp).1;obtain⟨o,r,h1,h2,rfl⟩:=zr hf;have hja:j∈acc:=by
    rw[←hids,List.mem_append]at hji;rcases hji with h|h
    ·exact h
    ·rw[hfree j (hnidL j h).1 (hnidL j h).2]at h1;cases h1
   have hpa:acc[p]? =some j:=by
    obtain⟨p',hp'⟩:=List.mem_iff_getElem?.1 hja;have hp'l:=(List.getElem?_eq_some_iff.1 hp').1;have e:ids[p']? =some j:=by rw[←hids,List.getElem?_append_left hp'l];exact hp'
    have:p=p':=by have h1:=List.getElem?_eq_some_iff.1 hp;have h2:=List.getElem?_eq_some_iff.1 e;exact (List.getElem_inj hnd).1 (h1.2.trans h2.2.symm)
    subst this;exact hp'
   have hlive':∃o',hget ho p=some o':=by
    cases hx:ho[p]? with
    |none=>rw[List.getElem?_eq_none_iff]at hx;omega
    |some x=>cases x with
     |some o'=>exact⟨o',z6.2 hx⟩
     |none=>exact absurd (Yd.2 ⟨p,hp,(hrs p).1 hx⟩) hj
   obtain⟨o',ho'1⟩:=hlive';obtain⟨o'',h3,h4⟩:=(hget_at p j hp).2 o' ho'1;have hpacc:p<hv.length:=by rw[hlv];exact (List.getElem?_eq_some_iff.1 hpa).1
   have hs:=S.same p hpacc ⟨o',ho'1⟩;simp only at hs;rw[hlk p j hpa]at hs;obtain⟨o2,r2,g1,g2,g3⟩:=zr (hs.trans hf);rw[ho'1]at g1;cases g1;rw[zW h3 (((hat p j hp).2).trans g2),X6 h4,g3]
  ·obtain⟨o,r,h1,h2,rfl⟩:=zr hf;refine zW ?_ ((Z2 hji).trans h2);rw[z6,yV hji];exact z6.1 h1
 have inA:∀b,b∈fpsAll Gv hv→(∃i r,i∈ids∧live st.h i∧G[i]? =some r∧b∈r.fp):=by intro b hb;obtain⟨i,r,h1,h2⟩:=(hX b).1 hb;exact⟨i,r,by rw[←hids];exact List.mem_append_left _ h1,h2⟩
 obtain⟨h1,h2⟩:=yx (c:=c) (R':=R') (G':=qU G ids Go) (h':=jq st.h ids ho') (X:=fpsAll Gv hv) (A:=ids) (Fr:=fun _=>False) F.wrel F.since S.keeps (fun b hb=>.inr (inA b hb)) (by simp)
  (by rw[Wa,Zk,F.wrel.len]) (by rw[Zk];exact Nat.le_refl _)
  (fun i hi _=>⟨by rw[hget,hget,yV hi],Z2 hi⟩)
  (fun i o hi ho2 j hj f hf=>by
   have ho3:hget st.h i=some o:=by rw[z6,←yV hi (h:=st.h) (ho:=ho')];exact z6.1 ho2
   exact hstay j (hdep i o (fun h=>hi (by rw[←hids];exact List.mem_append_left _ h)) ho3 j hj) f hf)
  S.rsub
  (fun b o h1 h2=>by
   refine⟨?_,W.ro b o h1⟩;rcases S.rnew b (by rw[h1];simp)with h|h|h
   ·exact absurd h2 h
   ·exact .inr (.inl (inA b h))
   ·exact .inr (.inr h))
  (fun i o' r hi ho2 hr2=>by
   obtain⟨p,hp⟩:=List.mem_iff_getElem?.1 hi;obtain⟨o,g1,g2⟩:=(hget_at p i hp).1 o' ho2;rw[(hat p i hp).2]at hr2;refine⟨(W.obj p o r g1 hr2).ren g2 (fun _ _ h=>h) hlkN,fun b hb=>⟨W.sepR p r ⟨o,g1⟩ hr2 b hb,?_⟩⟩;rcases S.own p r b ⟨o,g1⟩ hr2 hb with h|h
   ·exact .inr (.inl (inA b h))
   ·exact .inr (.inr h))
  (fun i j ri rj hij hi hj ⟨oi,hoi⟩ ⟨oj,hoj⟩ hri hrj b hb hm=>by obtain⟨p,hp⟩:=List.mem_iff_getElem?.1 hi;obtain⟨p',hp'⟩:=List.mem_iff_getElem?.1 hj;obtain⟨o1,g1,_⟩:=(hget_at p i hp).1 oi hoi;obtain⟨o2,g2,_⟩:=(hget_at p' j hp').1 oj hoj;rw[(hat p i hp).2]at hri;rw[(hat p' j hp').2]at hrj;refine W.sep p p' ri rj (fun e=>hij ?_) ⟨o1,g1⟩ ⟨o2,g2⟩ hri hrj b hb hm;subst e;rw[hp]at hp';exact Option.some.inj hp')
  (fun i him hi hlv'=>by
   have hia:i∈acc:=by
    rw[←hids,List.mem_append]at hi;rcases hi with h|h
    ·exact h
    ·have:=(hnidL i h).1;omega
   obtain⟨o,ho2⟩:=hlive i hia;rw[←F.since.same i him ⟨o,ho2⟩];obtain⟨r,hr2⟩:=F.wrel.res ⟨o,ho2⟩;have e:=zW ho2 hr2;rw[e];refine hstay i (fun hg=>?_) _ e;obtain⟨p,hp,hpn⟩:=Yd.1 hg;obtain⟨o',ho3⟩:=hlv';rw[z6,(hat p i hp).1,hpn]at ho3;cases ho3)
 refine⟨⟨h1,h2,fun t=>?_,F.defers,F.size⟩,hlkN,fun i hi hno=>?_⟩
 ·exact zk S.rsub _ _ (fun j hj f hf=>hstay j (hsl t j hj) f hf) (F.slots t)
 ·by_cases hii:i∈ids
  ·rw[←hids,List.mem_append]at hii;rcases hii with h|h
   ·obtain⟨o,ho2⟩:=hlive i h;rw[hno]at ho2;cases ho2
   ·exact absurd (hnidL i h) hi
  ·unfold hget;rw[yV hii];exact hno
theorem zji{E:Env}{GP:Ro→Prop}{T:Type}{strict:Bool}{nid f:Nat}{args:List AV}{vs:List Value}{k:AV→St→Option T}{r:T}(hΓ:∀C∈E.Γ,SoundC P GP C)
  (F:Fit c n R G st a w) (hGP:GP R) (hm:c.m≤nid) (hfree:FreeR st.h nid jL) (hl:nid+jL≤st.h.length) (hargs:RelL (look G st.h) R args vs)
  (h:yD E strict nid f args st k=some r):
  Proofs.Enters P f∧Calls P f vs.toArray w fun e w'=>∃v st' R' G' V,e=.returned V∧k v st'=some r∧Fit c n R' G' st' a w'∧Rel (look G' st'.h) R' v V∧
   ZO nid jL st.h st'.h∧st'.h.length=st.h.length∧(∀b o,R b=some o→R' b=some o):=by
 unfold yD at h;simp only[]at h;generalize hacc:reach st.h 1000 (idsL args) []=acc at h;split at h
 ·rename_i args' hv hnd hargs' hview;have hn:=Ji hnd;obtain⟨C,hC,rfl,x,b,hdec,hspec,hk⟩:=zdN h;obtain⟨Gv,hGl,hGv,hWv,hσ,hlk,hX⟩:=zsc F hn hview;obtain⟨hen,hcall⟩:=hΓ C hC _ _ _ _ hdec hspec;refine⟨hen,(hcall R Gv w vs hGP hWv (qV (fun _ _ h=>h) hσ _ _ _ hargs' hargs)).mono ?_⟩;rintro e w' ⟨V,R',Go,rfl,hW,hS,hV⟩;split at hk
  ·rename_i v ho hle1 hle2 hv' hho;have hle1:=Nat.le_of_ble_eq_true hle1;have hle2:=Nat.le_of_ble_eq_true hle2;have hvl:=Zs hview;have hlive:∀i∈acc,live st.h i:=fun i hi=>by obtain⟨p,hp⟩:=List.mem_iff_getElem?.1 hi;obtain⟨o,o',h1,_⟩:=hvl.2 p i hp;exact⟨o,h1⟩
   have key:∀(D:List Nat),D=Js (acc++newIds nid ((C.enc x b).h.length-acc.length)) ho→∀st1,st1=scrub D st→
     ∃R' G',Fit c n R' G' ⟨st1.s,jq st1.h (acc++newIds nid ((C.enc x b).h.length-acc.length)) ho⟩ a w'∧
      Rel (look G' (jq st1.h (acc++newIds nid ((C.enc x b).h.length-acc.length)) ho)) R' v V∧
      ZO nid jL st.h (jq st1.h (acc++newIds nid ((C.enc x b).h.length-acc.length)) ho)∧(jq st1.h (acc++newIds nid ((C.enc x b).h.length-acc.length)) ho).length=st.h.length∧
      (∀b o,R b=some o→R' b=some o):=by
    intro D hD st1 hst1;obtain⟨F1,hlk1,hlen1,hids1,hsl1,hno1⟩:=F.scrub D;rw[←hst1]at F1 hlk1 hlen1 hids1 hsl1 hno1;have hlive1:∀i,live st.h i→live st1.h i:=by intro i hi;obtain⟨o,ho⟩:=hi;obtain⟨r,hr⟩:=F.wrel.res ⟨o,ho⟩;have:=(hlk1 i).trans (zW ho hr);obtain⟨o',r',h1,_⟩:=zr this;exact⟨o',h1⟩
    have hlive2:∀i,live st1.h i→live st.h i:=by
     intro i ⟨o,ho⟩;cases hx:hget st.h i with
     |some o'=>exact⟨o',hx⟩
     |none=>rw[hno1 i hx]at ho;cases ho
    have hfree1:FreeR st1.h nid ((C.enc x b).h.length-acc.length):=fun i hi hi2=>hno1 i (hfree i hi (by omega))
    obtain⟨F2,hlkN,hfr⟩:=zvV (R':=R') (Gv:=Gv) (Go:=Go) (hv:=hv) (w':=w') (acc:=acc) (nid:=nid) (q:=(C.enc x b).h.length-acc.length) (ho:=(C.enc x b).h) (ho':=ho) F1 hm hfree1 hn
     (by omega) (by rw[hlen1];unfold jL at*;omega) (fun i hi=>hlive1 i (hlive i hi)) (fun p i hp=>(hlk p i hp).trans (hlk1 i).symm) hvl.1
     (fun b=>(hX b).trans ⟨fun⟨i,r,h1,h2,h3⟩=>⟨i,r,h1,hlive1 i h2,h3⟩,fun⟨i,r,h1,h2,h3⟩=>⟨i,r,h1,hlive2 i h2,h3⟩⟩) hW hS hho
     (fun i o _ ho2 j hj=>by rw[←hD];exact hids1 i o ho2 j hj) (fun t j hj=>by rw[←hD];exact hsl1 t j hj)
    refine⟨R',_,F2,Q8 (fun _ _ h=>h) hlkN _ _ _ hv' hV,fun i hi hno=>hfr i (fun hh=>hi ⟨hh.1,by omega⟩) (hno1 i hno),by rw[Zk,hlen1],hS.rsub⟩
   split at hk
   ·rename_i hg;obtain⟨R2,G2,h1,h2,h3,h4,h5⟩:=key [] hg.symm st rfl;exact⟨_,_,R2,G2,V,rfl,hk,h1,h2,h3,h4,h5⟩
   ·rename_i hg;split at hk
    ·cases hk
    ·obtain⟨R2,G2,h1,h2,h3,h4,h5⟩:=key _ rfl _ rfl;exact⟨_,_,R2,G2,V,rfl,hk,h1,h2,h3,h4,h5⟩
  ·cases hk
 ·cases h
end
end Go.Am
