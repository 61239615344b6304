/-
  A part of the proof of the laws.
-/
import Derived.Test.YtannhfbidakffaaGreatDoorAm8
namespace Go.Am
open Go Go.RowKit Go.Vc
theorem ziJ{R:Type}{j:List AV}{h:Heap}{k:Out->Option R}{f:FuncId}{r:R}:∀{Γ:List Con},KT j h k f Γ=some r->
  ∃C∈Γ,C.f=f/\∃x b,C.dec j h=some x/\C.spec x=some b/\k (C.enc x b)=some r
 |[],e=>by cases e
 |C::Γ,e=>by
  have tail:KT j h k f Γ=some r->∃C'∈C::Γ,C'.f=f/\∃x b,C'.dec j h=some x/\C'.spec x=some b/\k (C'.enc x b)=some r:=fun e=>let⟨C',B,H⟩:=ziJ e;⟨C',nE _ B,H⟩
  simp only[KT]at e;split at e
  ·rename_i J;split at e
   ·rename_i x I;obtain⟨b,B,H,_⟩:=C.hgo _ _ _ _ e;exact⟨C,nR,mE J,x,b,I,B,H⟩
   ·exact tail e
  ·exact tail e
theorem jm{h:Heap}{i:Nat}{o:AO}:hget h i=some o↔h[i]? =some (some o):=by
 unfold hget;cases hi:h[i]? with
 |none=>simp
 |some x=>cases x<;>simp
theorem zkp{h:Heap}{i:Nat}(e:h[i]? =some none):hget h i=none:=by unfold hget;simp[e]
section
variable {P : Program} {c : Base} {n : Nat} {R : Ro} {G : List Res} {st : St} {a : Act} {w : World}
theorem zzg(F:Fit c n R G st a w){acc:List Nat}(hn:acc.Nodup){hv:Heap}(hh:KF (fun i=>Ja i acc 0) st.h acc=some hv):
  ∃Gv:List Res,Gv.length=acc.length/\(∀(p i:Nat),acc[p]? =some i->Gv[p]? =G[i]?)/\WRel R Gv hv w/\(∀i j,Ja i acc 0=some j->∀f,look G st.h i=some f->look Gv hv j=some f)/\
   (∀(p i:Nat),acc[p]? =some i->look Gv hv p=look G st.h i)/\(∀b,b∈fpsAll Gv hv↔∃i r,i∈acc/\live st.h i/\G[i]? =some r/\b∈r.fp):=by
 obtain⟨hl,hs⟩:=J9 hh;have B:∀i∈acc,live st.h i:=fun i hi=>by obtain⟨p,hp⟩:=uAr.1 hi;obtain⟨o,o',J,_⟩:=hs p i hp;exact⟨o,J⟩
 have S:∀i∈acc,∃r,G[i]? =some r:=fun i hi=>F.wrel.res (B i hi)
 let Gv:List Res:=acc.map fun i=>G.getD i ⟨0,false,0,[]⟩
 have O:∀(p i:Nat),acc[p]? =some i->Gv[p]? =G[i]? :=by intro p i hp;obtain⟨r,I⟩:=S i (nX hp);simp only[Gv,nK,hp,uAA,mN,I,Option.getD_some]
 have hlk:∀(p i:Nat),acc[p]? =some i->look Gv hv p=look G st.h i:=by intro p i hp;obtain⟨o,o',J,Y,h3⟩:=hs p i hp;obtain⟨r,I⟩:=S i (nX hp);rw[zU J I,zU (jm.2 h3) ((O p i hp).trans I),zce Y]
 have hσ:∀i j,Ja i acc 0=some j->∀f,look G st.h i=some f->look Gv hv j=some f:=fun i j hj f hf=>(hlk j i (XY hj)).trans hf
 have H:∀(p:Nat)(o:AO),hget hv p=some o->∃i,acc[p]? =some i:=by intro p o ho;have:=(mG.1 (jm.1 ho)).1;rw[hl]at this;exact⟨acc[p],mJ this⟩
 refine⟨Gv,by simp[Gv],O,⟨by simp[Gv,hl],fun p o r ho I=>?_,fun p q rp rq hpq hp hq Z hrq b U hm=>?_,fun p r hp I b U=>?_,F.wrel.ro⟩,hσ,hlk,fun b=>?_⟩
 ·obtain⟨i,hi⟩:=H p o ho;obtain⟨oi,o',J,Y,h3⟩:=hs p i hi;rw[jm,h3]at ho;cases ho;rw[O p i hi]at I;exact (F.wrel.obj i oi r J I).ren Y (fun _ _ h=>h) hσ
 ·obtain⟨op,hop⟩:=hp;obtain⟨oq,hoq⟩:=hq;obtain⟨i,hi⟩:=H p op hop;obtain⟨j,hj⟩:=H q oq hoq;rw[O p i hi]at Z;rw[O q j hj]at hrq;refine F.wrel.sep i j rp rq (fun e=>hpq ?_) (B i (nX hi)) (B j (nX hj)) Z hrq b U hm;subst e;have J:=(mG.1 hi)
  have Y:=(mG.1 hj)
  exact (List.getElem_inj hn).1 (J.2.trans Y.2.symm)
 ·obtain⟨o,ho⟩:=hp;obtain⟨i,hi⟩:=H p o ho;rw[O p i hi]at I;exact F.wrel.sepR i r (B i (nX hi)) I b U
 ·rw[zJ];constructor
  ·rintro⟨p,r,⟨o,ho⟩,I,U⟩;obtain⟨i,hi⟩:=H p o ho;rw[O p i hi]at I;exact⟨i,r,nX hi,B i (nX hi),I,U⟩
  ·rintro⟨i,r,hi,hli,I,U⟩;obtain⟨p,hp⟩:=uAr.1 hi;obtain⟨o,o',J,Y,h3⟩:=hs p i hp;exact⟨p,r,⟨o',jm.2 h3⟩,(O p i hp).trans I,U⟩
theorem zCh{R':Ro}{Gv Go:List Res}{hv:Heap}{w':World}{acc:List Nat}{nid q:Nat}{ho ho':Heap}(F:Fit c n R G st a w)(hm:c.m<=nid)(hfree:FreeR st.h nid q)(hn:acc.Nodup)
  (hlenO:ho.length=acc.length+q) (hq:nid+q<=st.h.length) (U:∀i∈acc,live st.h i)
  (hlk:∀(p i:Nat),acc[p]? =some i->look Gv hv p=look G st.h i) (hlv:hv.length=acc.length)
  (hX:∀b,b∈fpsAll Gv hv↔∃i r,i∈acc/\live st.h i/\G[i]? =some r/\b∈r.fp)
  (W:WRel R' Go ho w') (S:Since ⟨R,look Gv hv,fpsAll Gv hv,w,hv.length⟩ R' Go ho w') (hr:zls (zaV acc acc.length nid) ho=some ho')
  (hdep:∀i o,i∉acc->hget st.h i=some o->∀j∈idsO o,j∉Q8 (acc++newIds nid q) ho') (hsl:∀t,∀j∈idsV (get st.s t),j∉Q8 (acc++newIds nid q) ho'):
  Fit c n R' (Jo G (acc++newIds nid q) Go) ⟨st.s,jI st.h (acc++newIds nid q) ho'⟩ a w'/\
   (∀i j,zaV acc acc.length nid i=some j->∀f,look Go ho i=some f->look (Jo G (acc++newIds nid q) Go) (jI st.h (acc++newIds nid q) ho') j=some f)/\
   YW nid q st.h (jI st.h (acc++newIds nid q) ho'):=by
 obtain⟨hlr,hrs⟩:=zdA hr;generalize hids:acc++newIds nid q=ids at*
 have hil:ids.length=ho.length:=by rw[<-hids,hlenO];simp[newIds]
 have I:∀i∈newIds nid q,nid<=i/\i<nid+q:=by intro i hi;simp only[newIds,uAb,List.mem_range]at hi;obtain⟨x,hx,rfl⟩:=hi;omega
 have haccL:∀i∈acc,¬(nid<=i/\i<nid+q):=by intro i hi ⟨J,Z⟩;obtain⟨o,ho⟩:=U i hi;rw[hfree i J Z]at ho;cases ho
 have hnd:ids.Nodup:=by
  rw[<-hids,List.nodup_append];refine⟨hn,?_,fun x hx y hy e=>?_⟩
  ·rw[List.Nodup,List.pairwise_iff_getElem];intro i j hi hj hij;simp only[newIds,List.getElem_map,List.getElem_range];omega
  ·subst e;exact haccL x hx (I x hy)
 have hlt:∀i∈ids,i<st.h.length:=by
  intro i hi;rw[<-hids,mU]at hi;rcases hi with hi|hi
  ·exact jr (U i hi)
  ·have:=(I i hi).2;omega
 have hltG:∀i∈ids,i<G.length:=fun i hi=>by rw[F.wrel.len];exact hlt i hi
 have hGl:Go.length=ho.length:=W.len;have hat:∀(p i:Nat),ids[p]? =some i->(jI st.h ids ho')[i]? =ho'[p]? /\(Jo G ids Go)[i]? =Go[p]? :=by intro p i hp;have hpl:=(mG.1 hp).1;exact⟨zpT hnd hp (hlt i (nX hp)) oM,zpU hnd hp (hltG i (nX hp)) oM⟩
 have B:∀(p i:Nat),ids[p]? =some i->(∀o',hget (jI st.h ids ho') i=some o'->∃o,hget ho p=some o/\XT (zaV acc acc.length nid) o=some o')/\
   (∀o,hget ho p=some o->∃o',hget (jI st.h ids ho') i=some o'/\XT (zaV acc acc.length nid) o=some o'):=by
  intro p i hp;have hpl:=(mG.1 hp).1;have J:=(hat p i hp).1;have Z:=hrs p;have hex:∃x,ho[p]? =some x:=⟨ho[p]' oM,mJ oM⟩
  obtain⟨x,hx⟩:=hex;cases x with
  |none=>
   have h3:=Z.1 hx;refine⟨fun o' H=>?_,fun o H=>?_⟩
   ·rw[jm,J,h3]at H;cases H
   ·rw[jm,hx]at H;cases H
  |some o=>
   obtain⟨o1,h3,h4⟩:=Z.2 o hx;refine⟨fun o' H=>?_,fun o2 H=>?_⟩
   ·rw[jm,J,h4]at H;cases H;exact⟨o,jm.2 hx,h3⟩
   ·rw[jm,hx]at H;cases H;exact⟨o1,by rw[jm,J,h4],h3⟩
 have hbackN:∀i j,zaV acc acc.length nid i=some j->i<ho.length->ids[i]? =some j:=by
  intro i j hb hi;unfold zaV at hb;rw[<-hids];split at hb
  ·rename_i hlt';have:i+1<=acc.length:=by simpa[Nat.blt]using hlt'
   rw[nH oM];exact hb
  ·rename_i hlt';have hge:acc.length<=i:=by
    rcases Nat.lt_or_ge i acc.length with h|h
    ·have:Nat.blt i acc.length=true:=by simp[Nat.blt];omega
     rw[hlt']at this;cases this
    ·exact h
   cases hb;rw[nJ hge];simp only[newIds,nK];rw[List.getElem?_range oM];rfl
 have hlkN:∀i j,zaV acc acc.length nid i=some j->∀f,look Go ho i=some f->look (Jo G ids Go) (jI st.h ids ho') j=some f:=by intro i j hb f hf;obtain⟨o,r,J,Z,rfl⟩:=zp hf;have hi:=jr ⟨o,J⟩;have hj:=hbackN i j hb hi;obtain⟨o',h3,h4⟩:=(B i j hj).2 o J;rw[zU h3 (((hat i j hj).2).trans Z),zce h4]
 have hstay:∀j,j∉Q8 ids ho'->∀f,look G st.h j=some f->look (Jo G ids Go) (jI st.h ids ho') j=some f:=by
  intro j hj f hf;by_cases hji:j∈ids
  ·obtain⟨p,hp⟩:=uAr.1 hji;have hpl:=(mG.1 hp).1;obtain⟨o,r,J,Z,rfl⟩:=zp hf;have hja:j∈acc:=by
    rw[<-hids,mU]at hji;rcases hji with h|h
    ·exact h
    ·rw[hfree j (I j h).1 (I j h).2]at J;cases J
   have hpa:acc[p]? =some j:=by
    obtain⟨p',Y⟩:=uAr.1 hja;have hp'l:=(mG.1 Y).1;have e:ids[p']? =some j:=by rw[<-hids,nH hp'l];exact Y
    have:p=p':=by have J:=mG.1 hp;have Z:=mG.1 e;exact (List.getElem_inj hnd).1 (J.2.trans Z.2.symm)
    subst this;exact Y
   have hlive':∃o',hget ho p=some o':=by
    cases hx:ho[p]? with
    |none=>rw[List.getElem?_eq_none_iff]at hx;omega
    |some x=>cases x with
     |some o'=>exact⟨o',jm.2 hx⟩
     |none=>exact absurd (Ki.2 ⟨p,hp,(hrs p).1 hx⟩) hj
   obtain⟨o',ho'1⟩:=hlive';obtain⟨o'',h3,h4⟩:=(B p j hp).2 o' ho'1;have hpacc:p<hv.length:=by rw[hlv];exact (mG.1 hpa).1
   have hs:=S.same p hpacc ⟨o',ho'1⟩;simp only at hs;rw[hlk p j hpa]at hs;obtain⟨o2,r2,g1,g2,g3⟩:=zp (hs.trans hf);rw[ho'1]at g1;cases g1;rw[zU h3 (((hat p j hp).2).trans g2),zce h4,g3]
  ·obtain⟨o,r,J,Z,rfl⟩:=zp hf;refine zU ?_ ((Qi hji).trans Z);rw[jm,qR hji];exact jm.1 J
 have inA:∀b,b∈fpsAll Gv hv->(∃i r,i∈ids/\live st.h i/\G[i]? =some r/\b∈r.fp):=by intro b hb;obtain⟨i,r,J,Z⟩:=(hX b).1 hb;exact⟨i,r,by rw[<-hids];exact uAc _ J,Z⟩
 obtain⟨J,Z⟩:=yY (c:=c) (R':=R') (G':=Jo G ids Go) (h':=jI st.h ids ho') (X:=fpsAll Gv hv) (A:=ids) (Fr:=fun _=>False) F.wrel F.since S.keeps (fun b hb=>.inr (inA b hb)) sI
  (by rw[zc9,JR,F.wrel.len]) (by rw[JR];exact mH _)
  (fun i hi _=>⟨by rw[hget,hget,qR hi],Qi hi⟩)
  (fun i o hi O j hj f hf=>by
   have ho3:hget st.h i=some o:=by rw[jm,<-qR hi (h:=st.h) (ho:=ho')];exact jm.1 O
   exact hstay j (hdep i o (fun h=>hi (by rw[<-hids];exact uAc _ h)) ho3 j hj) f hf)
  S.rsub
  (fun b o J Z=>by
   refine⟨?_,W.ro b o J⟩;rcases S.rnew b (by rw[J];simp)with h|h|h
   ·exact absurd Z h
   ·exact .inr (.inl (inA b h))
   ·exact .inr (.inr h))
  (fun i o' r hi O hr2=>by
   obtain⟨p,hp⟩:=uAr.1 hi;obtain⟨o,g1,g2⟩:=(B p i hp).1 o' O;rw[(hat p i hp).2]at hr2;refine⟨(W.obj p o r g1 hr2).ren g2 (fun _ _ h=>h) hlkN,fun b hb=>⟨W.sepR p r ⟨o,g1⟩ hr2 b hb,?_⟩⟩;rcases S.own p r b ⟨o,g1⟩ hr2 hb with h|h
   ·exact .inr (.inl (inA b h))
   ·exact .inr (.inr h))
  (fun i j ri rj hij hi hj ⟨oi,hoi⟩ ⟨oj,hoj⟩ hri hrj b hb hm=>by obtain⟨p,hp⟩:=uAr.1 hi;obtain⟨p',Y⟩:=uAr.1 hj;obtain⟨o1,g1,_⟩:=(B p i hp).1 oi hoi;obtain⟨o2,g2,_⟩:=(B p' j Y).1 oj hoj;rw[(hat p i hp).2]at hri;rw[(hat p' j Y).2]at hrj;refine W.sep p p' ri rj (fun e=>hij ?_) ⟨o1,g1⟩ ⟨o2,g2⟩ hri hrj b hb hm;subst e;rw[hp]at Y;exact Option.some.inj Y)
  (fun i him hi hlv'=>by
   have hia:i∈acc:=by
    rw[<-hids,mU]at hi;rcases hi with h|h
    ·exact h
    ·have:=(I i h).1;omega
   obtain⟨o,O⟩:=U i hia;rw[<-F.since.same i him ⟨o,O⟩];obtain⟨r,hr2⟩:=F.wrel.res ⟨o,O⟩;have e:=zU O hr2;rw[e];refine hstay i (fun hg=>?_) _ e;obtain⟨p,hp,hpn⟩:=Ki.1 hg;obtain⟨o',ho3⟩:=hlv';rw[jm,(hat p i hp).1,hpn]at ho3;cases ho3)
 refine⟨⟨J,Z,fun t=>?_,F.defers,F.size⟩,hlkN,fun i hi hno=>?_⟩
 ·exact zn S.rsub _ _ (fun j hj f hf=>hstay j (hsl t j hj) f hf) (F.slots t)
 ·by_cases hii:i∈ids
  ·rw[<-hids,mU]at hii;rcases hii with h|h
   ·obtain⟨o,O⟩:=U i h;rw[hno]at O;cases O
   ·exact absurd (I i h) hi
  ·unfold hget;rw[qR hii];exact hno
theorem zpQ{E:Env}{GP:Ro->Prop}{T:Type}{strict:Bool}{nid f:Nat}{S:List AV}{vs:List Value}{k:AV->St->Option T}{r:T}(hΓ:∀C∈E.Γ,SoundC P GP C)
  (F:Fit c n R G st a w) (hGP:GP R) (hm:c.m<=nid) (hfree:FreeR st.h nid j8) (hl:nid+j8<=st.h.length) (hargs:RelL (look G st.h) R S vs)
  (h:yv E strict nid f S st k=some r):
  Proofs.Enters P f/\Calls P f vs.toArray w fun e w'=>∃v st' R' G' V,e=.returned V/\k v st'=some r/\Fit c n R' G' st' a w'/\Rel (look G' st'.h) R' v V/\
   YW nid j8 st.h st'.h/\st'.h.length=st.h.length/\(∀b o,R b=some o->R' b=some o):=by
 unfold yv at h;simp only[]at h;generalize hacc:reach st.h 1000 (idsL S) []=acc at h;split at h
 ·rename_i args' hv hnd hargs' U;have hn:=QS hnd;obtain⟨C,hC,rfl,x,b,hdec,hspec,hk⟩:=ziJ h;obtain⟨Gv,hGl,hGv,hWv,hσ,hlk,hX⟩:=zzg F hn U;obtain⟨hen,hcall⟩:=hΓ C hC _ _ _ _ hdec hspec;refine⟨hen,(hcall R Gv w vs hGP hWv (Jp (fun _ _ h=>h) hσ _ _ _ hargs' hargs)).mono ?_⟩;rintro e w' ⟨V,R',Go,rfl,hW,hS,hV⟩;split at hk
  ·rename_i v ho hle1 hle2 hv' hho;have hle1:=mQ hle1;have hle2:=mQ hle2;have hvl:=J9 U;have hlive:∀i∈acc,live st.h i:=fun i hi=>by obtain⟨p,hp⟩:=uAr.1 hi;obtain⟨o,o',O,_⟩:=hvl.2 p i hp;exact⟨o,O⟩
   have key:∀(D:List Nat),D=Q8 (acc++newIds nid ((C.enc x b).h.length-acc.length)) ho->∀B,B=scrub D st->
     ∃R' G',Fit c n R' G' ⟨B.s,jI B.h (acc++newIds nid ((C.enc x b).h.length-acc.length)) ho⟩ a w'/\
      Rel (look G' (jI B.h (acc++newIds nid ((C.enc x b).h.length-acc.length)) ho)) R' v V/\
      YW nid j8 st.h (jI B.h (acc++newIds nid ((C.enc x b).h.length-acc.length)) ho)/\(jI B.h (acc++newIds nid ((C.enc x b).h.length-acc.length)) ho).length=st.h.length/\
      (∀b o,R b=some o->R' b=some o):=by
    intro D hD B hst1;obtain⟨F1,Y,H,Z,hsl1,I⟩:=F.scrub D;rw[<-hst1]at F1 Y H Z hsl1 I;have J:∀i,live st.h i->live B.h i:=by intro i hi;obtain⟨o,ho⟩:=hi;obtain⟨r,hr⟩:=F.wrel.res ⟨o,ho⟩;have:=(Y i).trans (zU ho hr);obtain⟨o',r',O,_⟩:=zp this;exact⟨o',O⟩
    have hlive2:∀i,live B.h i->live st.h i:=by
     intro i ⟨o,ho⟩;cases hx:hget st.h i with
     |some o'=>exact⟨o',hx⟩
     |none=>rw[I i hx]at ho;cases ho
    have hfree1:FreeR B.h nid ((C.enc x b).h.length-acc.length):=fun i hi hi2=>I i (hfree i hi oM)
    obtain⟨F2,hlkN,hfr⟩:=zCh (R':=R') (Gv:=Gv) (Go:=Go) (hv:=hv) (w':=w') (acc:=acc) (nid:=nid) (q:=(C.enc x b).h.length-acc.length) (ho:=(C.enc x b).h) (ho':=ho) F1 hm hfree1 hn
     oM (by rw[H];unfold j8 at*;omega) (fun i hi=>J i (hlive i hi)) (fun p i hp=>(hlk p i hp).trans (Y i).symm) hvl.1
     (fun b=>(hX b).trans ⟨fun⟨i,r,O,h2,h3⟩=>⟨i,r,O,J i h2,h3⟩,fun⟨i,r,O,h2,h3⟩=>⟨i,r,O,hlive2 i h2,h3⟩⟩) hW hS hho
     (fun i o _ ho2 j hj=>by rw[<-hD];exact Z i o ho2 j hj) (fun t j hj=>by rw[<-hD];exact hsl1 t j hj)
    refine⟨R',_,F2,zak (fun _ _ h=>h) hlkN _ _ _ hv' hV,fun i hi hno=>hfr i (fun hh=>hi ⟨hh.1,oM⟩) (I i hno),by rw[JR,H],hS.rsub⟩
   split at hk
   ·rename_i hg;obtain⟨R2,G2,O,h2,h3,h4,h5⟩:=key [] hg.symm st rfl;exact⟨_,_,R2,G2,V,rfl,hk,O,h2,h3,h4,h5⟩
   ·rename_i hg;split at hk
    ·cases hk
    ·obtain⟨R2,G2,O,h2,h3,h4,h5⟩:=key _ rfl _ rfl;exact⟨_,_,R2,G2,V,rfl,hk,O,h2,h3,h4,h5⟩
  ·cases hk
 ·cases h
end
end Go.Am
