/-
  A part of the proof of the laws.
-/
import Derived.Test.YtodebhabandljaaGreatDoorAm8
namespace Go.Am
open Go Go.RowKit Go.Vc
theorem zfO{R:Type}{j:List AV}{h:Heap}{k:Out->Option R}{f:FuncId}{r:R}:∀{Γ:List Con},Y7 j h k f Γ=some r->
  ∃C∈Γ,C.f=f/\∃x b,C.dec j h=some x/\C.spec x=some b/\k (C.enc x b)=some r
 |[],e=>by cases e
 |C::Γ,e=>by
  have y:Y7 j h k f Γ=some r->∃C'∈C::Γ,C'.f=f/\∃x b,C'.dec j h=some x/\C'.spec x=some b/\k (C'.enc x b)=some r:=fun e=>let⟨C',B,H⟩:=zfO e;⟨C',mU _ B,H⟩
  simp only[Y7]at e;split at e
  ·rename_i J;split at e
   ·rename_i x I;obtain⟨b,B,H,_⟩:=C.hgo _ _ _ _ e;exact⟨C,mV,kV J,x,b,I,B,H⟩
   ·exact y e
  ·exact y e
theorem je{h:Heap}{i:Nat}{o:AO}:hget h i=some o↔h[i]? =some (some o):=by
 unfold hget;cases hi:h[i]? with
 |none=>simp
 |some x=>cases x<;>simp
theorem zgZ{h:Heap}{i:Nat}(e:h[i]? =some none):hget h i=none:=by unfold hget;simp[e]
section
variable {P : Program} {c : Base} {n : Nat} {R : Ro} {G : List Res} {st : St} {a : Act} {w : World}
theorem zva(F:Fit c n R G st a w){acc:List Nat}(hn:acc.Nodup){hv:Heap}(hh:YW (fun i=>qX i acc 0) st.h acc=some hv):
  ∃Gv:List Res,Gv.length=acc.length/\(∀(p i:Nat),acc[p]? =some i->Gv[p]? =G[i]?)/\WRel R Gv hv w/\(∀i j,qX i acc 0=some j->∀f,look G st.h i=some f->look Gv hv j=some f)/\
   (∀(p i:Nat),acc[p]? =some i->look Gv hv p=look G st.h i)/\(∀b,b∈fpsAll Gv hv↔∃i r,i∈acc/\live st.h i/\G[i]? =some r/\b∈r.fp):=by
 obtain⟨hl,hs⟩:=ZT hh;have y:∀i∈acc,live st.h i:=fun i B=>by obtain⟨p,hp⟩:=uAp.1 B;obtain⟨o,o',J,_⟩:=hs p i hp;exact⟨o,J⟩
 have U:∀i∈acc,∃r,G[i]? =some r:=fun i B=>F.wrel.res (y i B)
 let Gv:List Res:=acc.map fun i=>G.getD i ⟨0,false,0,[]⟩
 have O:∀(p i:Nat),acc[p]? =some i->Gv[p]? =G[i]? :=by intro p i hp;obtain⟨r,I⟩:=U i (nK hp);simp only[Gv,mX,hp,nY,mG,I,Option.getD_some]
 have hlk:∀(p i:Nat),acc[p]? =some i->look Gv hv p=look G st.h i:=by intro p i hp;obtain⟨o,o',J,h2,h3⟩:=hs p i hp;obtain⟨r,I⟩:=U i (nK hp);rw[zG J I,zG (je.2 h3) ((O p i hp).trans I),JR h2]
 have hσ:∀i j,qX i acc 0=some j->∀f,look G st.h i=some f->look Gv hv j=some f:=fun i j hj f hf=>(hlk j i (Yv hj)).trans hf
 have H:∀(p:Nat)(o:AO),hget hv p=some o->∃i,acc[p]? =some i:=by intro p o ho;have:=(kX.1 (je.1 ho)).1;rw[hl]at this;exact⟨acc[p],kZ this⟩
 refine⟨Gv,by simp[Gv],O,⟨by simp[Gv,hl],fun p o r ho I=>?_,fun p q rp rq hpq hp hq hrp hrq b Z hm=>?_,fun p r hp I b Z=>?_,F.wrel.ro⟩,hσ,hlk,fun b=>?_⟩
 ·obtain⟨i,B⟩:=H p o ho;obtain⟨oi,o',J,h2,h3⟩:=hs p i B;rw[je,h3]at ho;cases ho;rw[O p i B]at I;exact (F.wrel.obj i oi r J I).ren h2 (fun _ _ h=>h) hσ
 ·obtain⟨op,hop⟩:=hp;obtain⟨oq,hoq⟩:=hq;obtain⟨i,B⟩:=H p op hop;obtain⟨j,hj⟩:=H q oq hoq;rw[O p i B]at hrp;rw[O q j hj]at hrq;refine F.wrel.sep i j rp rq (fun e=>hpq ?_) (y i (nK B)) (y j (nK hj)) hrp hrq b Z hm;subst e;have J:=(kX.1 B)
  have h2:=(kX.1 hj)
  exact (List.getElem_inj hn).1 (J.2.trans h2.2.symm)
 ·obtain⟨o,ho⟩:=hp;obtain⟨i,B⟩:=H p o ho;rw[O p i B]at I;exact F.wrel.sepR i r (y i (nK B)) I b Z
 ·rw[zO];constructor
  ·rintro⟨p,r,⟨o,ho⟩,I,Z⟩;obtain⟨i,B⟩:=H p o ho;rw[O p i B]at I;exact⟨i,r,nK B,y i (nK B),I,Z⟩
  ·rintro⟨i,r,B,hli,I,Z⟩;obtain⟨p,hp⟩:=uAp.1 B;obtain⟨o,o',J,h2,h3⟩:=hs p i hp;exact⟨p,r,⟨o',je.2 h3⟩,(O p i hp).trans I,Z⟩
theorem zy0{R':Ro}{Gv Go:List Res}{hv:Heap}{w':World}{acc:List Nat}{nid q:Nat}{ho ho':Heap}(F:Fit c n R G st a w)(hm:c.m<=nid)(hfree:FreeR st.h nid q)(hn:acc.Nodup)
  (hlenO:ho.length=acc.length+q) (hq:nid+q<=st.h.length) (Z:∀i∈acc,live st.h i)
  (hlk:∀(p i:Nat),acc[p]? =some i->look Gv hv p=look G st.h i) (hlv:hv.length=acc.length)
  (hX:∀b,b∈fpsAll Gv hv↔∃i r,i∈acc/\live st.h i/\G[i]? =some r/\b∈r.fp)
  (W:WRel R' Go ho w') (S:Since ⟨R,look Gv hv,fpsAll Gv hv,w,hv.length⟩ R' Go ho w') (hr:zhV (Kh acc acc.length nid) ho=some ho')
  (hdep:∀i o,i∉acc->hget st.h i=some o->∀j∈idsO o,j∉J2 (acc++newIds nid q) ho') (hsl:∀t,∀j∈idsV (get st.s t),j∉J2 (acc++newIds nid q) ho'):
  Fit c n R' (Zh G (acc++newIds nid q) Go) ⟨st.s,jx st.h (acc++newIds nid q) ho'⟩ a w'/\
   (∀i j,Kh acc acc.length nid i=some j->∀f,look Go ho i=some f->look (Zh G (acc++newIds nid q) Go) (jx st.h (acc++newIds nid q) ho') j=some f)/\
   Jm nid q st.h (jx st.h (acc++newIds nid q) ho'):=by
 obtain⟨hlr,hrs⟩:=zay hr;generalize hids:acc++newIds nid q=ids at*
 have hil:ids.length=ho.length:=by rw[<-hids,hlenO];simp[newIds]
 have J:∀i∈newIds nid q,nid<=i/\i<nid+q:=by intro i I;simp only[newIds,nZ,List.mem_range]at I;obtain⟨x,hx,rfl⟩:=I;omega
 have haccL:∀i∈acc,¬(nid<=i/\i<nid+q):=by intro i I ⟨O,h2⟩;obtain⟨o,ho⟩:=Z i I;rw[hfree i O h2]at ho;cases ho
 have hnd:ids.Nodup:=by
  rw[<-hids,List.nodup_append];refine⟨hn,?_,fun x hx y hy e=>?_⟩
  ·rw[List.Nodup,List.pairwise_iff_getElem];intro i j I hj hij;simp only[newIds,List.getElem_map,List.getElem_range];omega
  ·subst e;exact haccL x hx (J x hy)
 have hlt:∀i∈ids,i<st.h.length:=by
  intro i I;rw[<-hids,mQ]at I;rcases I with I|I
  ·exact jg (Z i I)
  ·have:=(J i I).2;omega
 have hltG:∀i∈ids,i<G.length:=fun i I=>by rw[F.wrel.len];exact hlt i I
 have hGl:Go.length=ho.length:=W.len;have hat:∀(p i:Nat),ids[p]? =some i->(jx st.h ids ho')[i]? =ho'[p]? /\(Zh G ids Go)[i]? =Go[p]? :=by intro p i hp;have hpl:=(kX.1 hp).1;exact⟨zlw hnd hp (hlt i (nK hp)) (by omega),zlx hnd hp (hltG i (nK hp)) (by omega)⟩
 have H:∀(p i:Nat),ids[p]? =some i->(∀o',hget (jx st.h ids ho') i=some o'->∃o,hget ho p=some o/\Z0 (Kh acc acc.length nid) o=some o')/\
   (∀o,hget ho p=some o->∃o',hget (jx st.h ids ho') i=some o'/\Z0 (Kh acc acc.length nid) o=some o'):=by
  intro p i hp;have hpl:=(kX.1 hp).1;have O:=(hat p i hp).1;have h2:=hrs p;have hex:∃x,ho[p]? =some x:=⟨ho[p]'(by omega),kZ (by omega)⟩
  obtain⟨x,hx⟩:=hex;cases x with
  |none=>
   have h3:=h2.1 hx;refine⟨fun o' B=>?_,fun o B=>?_⟩
   ·rw[je,O,h3]at B;cases B
   ·rw[je,hx]at B;cases B
  |some o=>
   obtain⟨o1,h3,h4⟩:=h2.2 o hx;refine⟨fun o' B=>?_,fun o2 B=>?_⟩
   ·rw[je,O,h4]at B;cases B;exact⟨o,je.2 hx,h3⟩
   ·rw[je,hx]at B;cases B;exact⟨o1,by rw[je,O,h4],h3⟩
 have hbackN:∀i j,Kh acc acc.length nid i=some j->i<ho.length->ids[i]? =some j:=by
  intro i j hb I;unfold Kh at hb;rw[<-hids];split at hb
  ·rename_i hlt';have:i+1<=acc.length:=by simpa[Nat.blt]using hlt'
   rw[mN (by omega)];exact hb
  ·rename_i hlt';have hge:acc.length<=i:=by
    rcases Nat.lt_or_ge i acc.length with h|h
    ·have:Nat.blt i acc.length=true:=by simp[Nat.blt];omega
     rw[hlt']at this;cases this
    ·exact h
   cases hb;rw[nD hge];simp only[newIds,mX];rw[List.getElem?_range (by omega)];rfl
 have hlkN:∀i j,Kh acc acc.length nid i=some j->∀f,look Go ho i=some f->look (Zh G ids Go) (jx st.h ids ho') j=some f:=by intro i j hb f hf;obtain⟨o,r,O,h2,rfl⟩:=zx hf;have I:=jg ⟨o,O⟩;have hj:=hbackN i j hb I;obtain⟨o',h3,h4⟩:=(H i j hj).2 o O;rw[zG h3 (((hat i j hj).2).trans h2),JR h4]
 have hstay:∀j,j∉J2 ids ho'->∀f,look G st.h j=some f->look (Zh G ids Go) (jx st.h ids ho') j=some f:=by
  intro j hj f hf;by_cases hji:j∈ids
  ·obtain⟨p,hp⟩:=uAp.1 hji;have hpl:=(kX.1 hp).1;obtain⟨o,r,O,h2,rfl⟩:=zx hf;have hja:j∈acc:=by
    rw[<-hids,mQ]at hji;rcases hji with h|h
    ·exact h
    ·rw[hfree j (J j h).1 (J j h).2]at O;cases O
   have hpa:acc[p]? =some j:=by
    obtain⟨p',hp'⟩:=uAp.1 hja;have hp'l:=(kX.1 hp').1;have e:ids[p']? =some j:=by rw[<-hids,mN hp'l];exact hp'
    have:p=p':=by have O:=kX.1 hp;have h2:=kX.1 e;exact (List.getElem_inj hnd).1 (O.2.trans h2.2.symm)
    subst this;exact hp'
   have hlive':∃o',hget ho p=some o':=by
    cases hx:ho[p]? with
    |none=>rw[uAP]at hx;omega
    |some x=>cases x with
     |some o'=>exact⟨o',je.2 hx⟩
     |none=>exact absurd (YK.2 ⟨p,hp,(hrs p).1 hx⟩) hj
   obtain⟨o',ho'1⟩:=hlive';obtain⟨o'',h3,h4⟩:=(H p j hp).2 o' ho'1;have hpacc:p<hv.length:=by rw[hlv];exact (kX.1 hpa).1
   have hs:=S.same p hpacc ⟨o',ho'1⟩;simp only at hs;rw[hlk p j hpa]at hs;obtain⟨o2,r2,g1,g2,g3⟩:=zx (hs.trans hf);rw[ho'1]at g1;cases g1;rw[zG h3 (((hat p j hp).2).trans g2),JR h4,g3]
  ·obtain⟨o,r,O,h2,rfl⟩:=zx hf;refine zG ?_ ((Jz hji).trans h2);rw[je,y7 hji];exact je.1 O
 have inA:∀b,b∈fpsAll Gv hv->(∃i r,i∈ids/\live st.h i/\G[i]? =some r/\b∈r.fp):=by intro b hb;obtain⟨i,r,O,h2⟩:=(hX b).1 hb;exact⟨i,r,by rw[<-hids];exact nN _ O,h2⟩
 obtain⟨O,h2⟩:=yd (c:=c) (R':=R') (G':=Zh G ids Go) (h':=jx st.h ids ho') (X:=fpsAll Gv hv) (A:=ids) (Fr:=fun _=>False) F.wrel F.since S.keeps (fun b hb=>.inr (inA b hb)) (by simp)
  (by rw[zai,ZG,F.wrel.len]) (by rw[ZG];exact mA _)
  (fun i I _=>⟨by rw[hget,hget,y7 I],Jz I⟩)
  (fun i o I U j hj f hf=>by
   have ho3:hget st.h i=some o:=by rw[je,<-y7 I (h:=st.h) (ho:=ho')];exact je.1 U
   exact hstay j (hdep i o (fun h=>I (by rw[<-hids];exact nN _ h)) ho3 j hj) f hf)
  S.rsub
  (fun b o O h2=>by
   refine⟨?_,W.ro b o O⟩;rcases S.rnew b (by rw[O];simp)with h|h|h
   ·exact absurd h2 h
   ·exact .inr (.inl (inA b h))
   ·exact .inr (.inr h))
  (fun i o' r I U hr2=>by
   obtain⟨p,hp⟩:=uAp.1 I;obtain⟨o,g1,g2⟩:=(H p i hp).1 o' U;rw[(hat p i hp).2]at hr2;refine⟨(W.obj p o r g1 hr2).ren g2 (fun _ _ h=>h) hlkN,fun b hb=>⟨W.sepR p r ⟨o,g1⟩ hr2 b hb,?_⟩⟩;rcases S.own p r b ⟨o,g1⟩ hr2 hb with h|h
   ·exact .inr (.inl (inA b h))
   ·exact .inr (.inr h))
  (fun i j ri rj hij I hj ⟨oi,hoi⟩ ⟨oj,hoj⟩ hri hrj b hb hm=>by obtain⟨p,hp⟩:=uAp.1 I;obtain⟨p',hp'⟩:=uAp.1 hj;obtain⟨o1,g1,_⟩:=(H p i hp).1 oi hoi;obtain⟨o2,g2,_⟩:=(H p' j hp').1 oj hoj;rw[(hat p i hp).2]at hri;rw[(hat p' j hp').2]at hrj;refine W.sep p p' ri rj (fun e=>hij ?_) ⟨o1,g1⟩ ⟨o2,g2⟩ hri hrj b hb hm;subst e;rw[hp]at hp';exact Option.some.inj hp')
  (fun i him I hlv'=>by
   have hia:i∈acc:=by
    rw[<-hids,mQ]at I;rcases I with h|h
    ·exact h
    ·have:=(J i h).1;omega
   obtain⟨o,U⟩:=Z i hia;rw[<-F.since.same i him ⟨o,U⟩];obtain⟨r,hr2⟩:=F.wrel.res ⟨o,U⟩;have e:=zG U hr2;rw[e];refine hstay i (fun hg=>?_) _ e;obtain⟨p,hp,hpn⟩:=YK.1 hg;obtain⟨o',ho3⟩:=hlv';rw[je,(hat p i hp).1,hpn]at ho3;cases ho3)
 refine⟨⟨O,h2,fun t=>?_,F.defers,F.size⟩,hlkN,fun i I hno=>?_⟩
 ·exact zj S.rsub _ _ (fun j hj f hf=>hstay j (hsl t j hj) f hf) (F.slots t)
 ·by_cases hii:i∈ids
  ·rw[<-hids,mQ]at hii;rcases hii with h|h
   ·obtain⟨o,U⟩:=Z i h;rw[hno]at U;cases U
   ·exact absurd (J i h) I
  ·unfold hget;rw[y7 hii];exact hno
theorem zlu{E:Env}{GP:Ro->Prop}{T:Type}{strict:Bool}{nid f:Nat}{O:List AV}{vs:List Value}{k:AV->St->Option T}{r:T}(hΓ:∀C∈E.Γ,SoundC P GP C)
  (F:Fit c n R G st a w) (hGP:GP R) (hm:c.m<=nid) (hfree:FreeR st.h nid jT) (hl:nid+jT<=st.h.length) (hargs:RelL (look G st.h) R O vs)
  (h:yc E strict nid f O st k=some r):
  Proofs.Enters P f/\Calls P f vs.toArray w fun e w'=>∃v st' R' G' V,e=.returned V/\k v st'=some r/\Fit c n R' G' st' a w'/\Rel (look G' st'.h) R' v V/\
   Jm nid jT st.h st'.h/\st'.h.length=st.h.length/\(∀b o,R b=some o->R' b=some o):=by
 unfold yc at h;simp only[]at h;generalize hacc:reach st.h 1000 (idsL O) []=acc at h;split at h
 ·rename_i args' hv hnd hargs' hview;have hn:=JT hnd;obtain⟨C,hC,rfl,x,b,hdec,hspec,hk⟩:=zfO h;obtain⟨Gv,hGl,hGv,hWv,hσ,hlk,hX⟩:=zva F hn hview;obtain⟨hen,hcall⟩:=hΓ C hC _ _ _ _ hdec hspec;refine⟨hen,(hcall R Gv w vs hGP hWv (Zm (fun _ _ h=>h) hσ _ _ _ hargs' hargs)).mono ?_⟩;rintro e w' ⟨V,R',Go,rfl,hW,hS,hV⟩;split at hk
  ·rename_i v ho hle1 hle2 hv' hho;have hle1:=mI hle1;have hle2:=mI hle2;have hvl:=ZT hview;have hlive:∀i∈acc,live st.h i:=fun i hi=>by obtain⟨p,hp⟩:=uAp.1 hi;obtain⟨o,o',J,_⟩:=hvl.2 p i hp;exact⟨o,J⟩
   have key:∀(D:List Nat),D=J2 (acc++newIds nid ((C.enc x b).h.length-acc.length)) ho->∀y,y=scrub D st->
     ∃R' G',Fit c n R' G' ⟨y.s,jx y.h (acc++newIds nid ((C.enc x b).h.length-acc.length)) ho⟩ a w'/\
      Rel (look G' (jx y.h (acc++newIds nid ((C.enc x b).h.length-acc.length)) ho)) R' v V/\
      Jm nid jT st.h (jx y.h (acc++newIds nid ((C.enc x b).h.length-acc.length)) ho)/\(jx y.h (acc++newIds nid ((C.enc x b).h.length-acc.length)) ho).length=st.h.length/\
      (∀b o,R b=some o->R' b=some o):=by
    intro D hD y hst1;obtain⟨F1,U,B,Z,hsl1,H⟩:=F.scrub D;rw[<-hst1]at F1 U B Z hsl1 H;have I:∀i,live st.h i->live y.h i:=by intro i hi;obtain⟨o,ho⟩:=hi;obtain⟨r,hr⟩:=F.wrel.res ⟨o,ho⟩;have:=(U i).trans (zG ho hr);obtain⟨o',r',J,_⟩:=zx this;exact⟨o',J⟩
    have hlive2:∀i,live y.h i->live st.h i:=by
     intro i ⟨o,ho⟩;cases hx:hget st.h i with
     |some o'=>exact⟨o',hx⟩
     |none=>rw[H i hx]at ho;cases ho
    have hfree1:FreeR y.h nid ((C.enc x b).h.length-acc.length):=fun i hi hi2=>H i (hfree i hi (by omega))
    obtain⟨F2,hlkN,hfr⟩:=zy0 (R':=R') (Gv:=Gv) (Go:=Go) (hv:=hv) (w':=w') (acc:=acc) (nid:=nid) (q:=(C.enc x b).h.length-acc.length) (ho:=(C.enc x b).h) (ho':=ho) F1 hm hfree1 hn
     (by omega) (by rw[B];unfold jT at*;omega) (fun i hi=>I i (hlive i hi)) (fun p i hp=>(hlk p i hp).trans (U i).symm) hvl.1
     (fun b=>(hX b).trans ⟨fun⟨i,r,J,h2,h3⟩=>⟨i,r,J,I i h2,h3⟩,fun⟨i,r,J,h2,h3⟩=>⟨i,r,J,hlive2 i h2,h3⟩⟩) hW hS hho
     (fun i o _ ho2 j hj=>by rw[<-hD];exact Z i o ho2 j hj) (fun t j hj=>by rw[<-hD];exact hsl1 t j hj)
    refine⟨R',_,F2,YU (fun _ _ h=>h) hlkN _ _ _ hv' hV,fun i hi hno=>hfr i (fun hh=>hi ⟨hh.1,by omega⟩) (H i hno),by rw[ZG,B],hS.rsub⟩
   split at hk
   ·rename_i hg;obtain⟨R2,G2,J,h2,h3,h4,h5⟩:=key [] hg.symm st rfl;exact⟨_,_,R2,G2,V,rfl,hk,J,h2,h3,h4,h5⟩
   ·rename_i hg;split at hk
    ·cases hk
    ·obtain⟨R2,G2,J,h2,h3,h4,h5⟩:=key _ rfl _ rfl;exact⟨_,_,R2,G2,V,rfl,hk,J,h2,h3,h4,h5⟩
  ·cases hk
 ·cases h
end
end Go.Am
