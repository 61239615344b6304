/-
  A part of the proof of the laws.
-/
import Derived.Test.YtodebhabandljaaGreatDoorAm16
namespace Go.Am
open Go Go.RowKit Go.Vc
section
variable {E : Env} {all : List Oper} {base : Nat}
theorem yp:∀{ops:List Oper}{i:Nat}{o:Oper},ops[i]? =some o->rsvAll (ops.take (i+1))=rsvAll (ops.take i)+rsv o
 |[],_,_,h=>by simp at h
 |x::r,0,o,h=>by simp at h;subst h;simp[rsvAll]
 |x::r,i+1,o,h=>by have:=yp (ops:=r) (i:=i) (o:=o) (by simpa using h);simp only[uAo,rsvAll]at this⊢;omega
theorem zav:∀(ops:List Oper)(i j:Nat),i<=j->rsvAll (ops.take i)<=rsvAll (ops.take j)
 |[],_,_,_=>by simp
 |x::r,0,j,_=>by simp[rsvAll]
 |x::r,i+1,0,h=>by omega
 |x::r,i+1,j+1,h=>by have:=zav r i j (by omega);simp only[uAo,rsvAll];omega
theorem js{i j:Nat}{oi H:Oper}(B:all[i]? =some oi)(_:all[j]? =some H)(y:i<j):nidOf all base i+rsv oi<=nidOf all base j:=by unfold nidOf;have I:=yp B;have J:=zav all (i+1) j y;omega
theorem yZ{i:Nat}{o:Oper}(j:all[i]? =some o):nidOf all base i+rsv o<=base+rsvAll all:=by unfold nidOf;have B:=yp j;have y:=zav all (i+1) all.length (by have:=(kX.1 j).1;omega);rw[List.take_length]at y;omega
theorem zqr{T:Type}{k:St->Option T}{r:T}:∀(ops:List Oper)(i:Nat)(st:St),all.drop i=ops->jN E true all ops (nidOf all base i) st k=some r->
  ∃y,k y=some r/\RunS E all base (List.range' i ops.length) st y:=by
 intro ops;induction ops with
 |nil=>intro i st _ h;exact⟨st,h,Eqv.refl _⟩
 |cons o B ih=>
  intro i st J h;have hi:all[i]? =some o:=by have:=congrArg (·[0]?) J;simpa[List.getElem?_drop]using this
  have I:all.drop (i+1)=B:=by have:=congrArg (List.drop 1) J;simpa[List.drop_drop,Nat.add_comm]using this
  have hnid:nidOf all base i+rsv o=nidOf all base (i+1):=by unfold nidOf;have:=yp hi;omega
  rw[mC,List.range'_succ];simp only[jN,hnid]at h;split at h
  ·cases h
  ·have go:∀(j:St),Eqv j st->zC all o st=some true->opK E true (nidOf all base i) o.op j (fun v st'=>jN E true all B (nidOf all base (i+1)) ⟨putO o.dst v st'.s,st'.h⟩ k)=some r->
     ∃y,k y=some r/\RunS E all base (i::List.range' (i+1) B.length) st y:=by
    intro j O Z h0;obtain⟨v,u,h1,h2⟩:=XD h0;obtain⟨y,h5,h6⟩:=ih (i+1) _ I h1;have H:StepS E all base i j ⟨putO o.dst v j.s,jF j.h u⟩:=⟨o,v,u,hi,rfl,.inl ⟨(zy (fun t _=>O.1 t)).trans Z,h2⟩⟩
    obtain⟨st2,h7,h8⟩:=H.eqv O;exact⟨y,h5,st2,h7,h6.eqv h8⟩
   have no:∀(j:St),Eqv j st->zC all o st=some false->jN E true all B (nidOf all base (i+1)) ⟨putO o.dst (.tup []) j.s,j.h⟩ k=some r->
     ∃y,k y=some r/\RunS E all base (i::List.range' (i+1) B.length) st y:=by
    intro j O Z h0;obtain⟨y,h5,h6⟩:=ih (i+1) _ I h0;have H:StepS E all base i j ⟨putO o.dst (.tup []) j.s,jF j.h []⟩:=⟨o,.tup [],[],hi,rfl,.inr ⟨(zy (fun t _=>O.1 t)).trans Z,rfl,rfl⟩⟩
    obtain⟨st2,h7,h8⟩:=H.eqv O;exact⟨y,h5,st2,h7,h6.eqv h8⟩
   split at h
   ·rename_i hg;exact go st (Eqv.refl _) (by unfold zC;rw[hg]) h
   ·rename_i g U hg;split at h
    ·rename_i t ht;split at h
     ·rename_i b hlt hb;have Z:zC all o st=some (b==U):=by unfold zC;simp only[hg,ht,hb]
      have O:Eqv ⟨put t (.bool b) st.s,st.h⟩ st:=by
       refine⟨fun x=>?_,rfl⟩;show get (put t (.bool b) st.s) x=get st.s x;rw[jf];split
       ·rename_i e;subst e;exact hb.symm
       ·rfl
      cases b<;>cases U<;>simp only[cond_true,cond_false]at h
      ·exact go _ O Z h
      ·exact no _ O Z h
      ·exact no _ O Z h
      ·exact go _ O Z h
     ·rename_i hlt hb;exact no st (Eqv.refl _) (by unfold zC;simp only[hg,ht,hb]) h
     ·cases h
    ·cases h
structure StatOk(n L:Nat)(ops:List Oper):Prop where
 edge:∀(i:Nat)(o:Oper),ops[i]? =some o->∀e∈edgesOf o,e<i
 lt:∀(i:Nat)(o:Oper)(d:Nat),ops[i]? =some o->o.dst=some d->Nat.blt d n=true/\wrFrom ops 0 d=some i
 look:∀(i:Nat)(o:Oper)(t j:Nat),ops[i]? =some o->t∈o.looksAt ops.toArray->wrFrom ops 0 t=some j->Anc ops i j\/L<=j
theorem zpX{n:Nat}{ops:List Oper}(h:ziy n ops=true):StatOk n ops.length ops:=by
 unfold ziy at h;simp only[]at h;refine⟨fun i o H e O=>?_,fun i o d H hd=>?_,fun i o t j H J hw=>?_⟩;all_goals
  have y:=jO h H;simp only[kY]at y;obtain⟨⟨y,I⟩,h3⟩:=y
 ·have:=mK.1 y e O;have:e+1<=i:=by simpa[Nat.blt]using this
  omega
 ·rw[hd]at I;simp only[kY]at I;obtain⟨Z,B⟩:=I;refine⟨Z,?_⟩;split at B
  ·rename_i j U;rw[U,kV B]
  ·cases B
 ·have:=mK.1 h3 t J;rw[hw]at this;exact .inl (zU (zA.1 this))
theorem zmG{n m:Nat}{ops:List Oper}(h:Vy n m ops=true):StatOk n (ops.length-m) ops:=by
 unfold Vy at h;simp only[]at h;refine⟨fun i o H e O=>?_,fun i o d H hd=>?_,fun i o t j H J hw=>?_⟩;all_goals
  have y:=jO h H;simp only[kY]at y;obtain⟨⟨y,I⟩,h3⟩:=y
 ·have:=mK.1 y e O;have:e+1<=i:=by simpa[Nat.blt]using this
  omega
 ·rw[hd]at I;simp only[kY]at I;obtain⟨Z,B⟩:=I;refine⟨Z,?_⟩;split at B
  ·rename_i j U;rw[U,kV B]
  ·cases B
 ·have:=mK.1 h3 t J;rw[hw]at this;simp only[nW]at this;rcases this with this|this
  ·exact .inl (zU (zA.1 this))
  ·exact .inr (mI this)
theorem zeX{ops:List Oper}{st:St}(h:zcB E ops base st=true){i j:Nat}{oi B:Oper}(J:ops[i]? =some oi)(O:ops[j]? =some B)(H:j<i)(U:¬Anc ops i j):
  QC (fpW E ops st (nidOf ops base j) B) (fpW E ops st (nidOf ops base i) oi)=true:=by
 unfold zcB at h;simp only[]at h;have hget:∀(k:Nat)(o:Oper),ops[k]? =some o->(ops.zipIdx.map fun(o,i)=>fpW E ops st (nidOf ops base i) o)[k]? =some (fpW E ops st (nidOf ops base k) o):=by intro k o hk;simp only[mX,List.getElem?_zipIdx,hk,nY,uAr]
 have I:=jO h (hget i oi J);simp only[]at I;have y:=jO I (i:=j) (x:=fpW E ops st (nidOf ops base j) B) (by rw[uAN,if_pos H];exact hget j B O);simp only[nW]at y;rcases y with y|y
 ·exact absurd (zU (zA.1 y)) U
 ·exact y
theorem qt{p q:Nat->Bool}{i:Nat}:∀{l:List Nat},l.Pairwise (· < ·)->i∈l->p i=true->(∀j,q j=(p j&&!(Nat.beq j i)))->
  ∃B I,l.filter p=B++i::I/\l.filter q=B++I/\(∀j∈B,j<i)
 |[],_,h,_,_=>by cases h
 |x::r,J,hi,hp,hq=>by
  have J:=uAH.1 J;by_cases O:x=i
  ·subst O;have y:q x=false:=by rw[hq];simp
   have hr:r.filter q=r.filter p:=List.filter_congr fun j H=>by
    rw[hq];have:Nat.beq j x=false:=by
     cases hb:Nat.beq j x with
     |false=>rfl
     |true=>have:=kV hb;have:=J.1 j H;omega
    simp[this]
   exact⟨[],r.filter p,by simp[hp],by simp[y,hr],by simp⟩
  ·have hi':i∈r:=by rcases mS.1 hi with h|h;exact absurd h.symm O;exact h
   obtain⟨B,I,Z,h2,h3⟩:=qt J.2 hi' hp hq;have U:x<i:=J.1 i hi';have y:q x=p x:=by
    rw[hq];have:Nat.beq x i=false:=by
     cases hb:Nat.beq x i with
     |false=>rfl
     |true=>exact absurd (kV hb) O
    simp[this]
   cases hpx:p x with
   |true=>exact⟨x::B,I,by simp[hpx,Z],by simp[y,hpx,h2],fun j H=>by rcases mS.1 H with rfl|H;exact U;exact h3 j H⟩
   |false=>exact⟨B,I,by simp[hpx,Z],by simp[y,hpx,h2],h3⟩
theorem jJ{o:Oper}{st:St}{R:Ro}{G:List Res}{c:Base}{n L:Nat}{a:Act}{w:World}(F:Fit c n R G st a w)(hS:StatOk n L all){b:Bool}(h:zC all o st=some b):
  Region.wanted o (yielded all.toArray a.tmps)=b:=by
 unfold zC at h;cases hg:o.guard with
 |none=>rw[hg]at h;cases h;simp[Region.wanted,hg]
 |some gw=>
  obtain⟨g,I⟩:=gw;rw[hg]at h;cases ht:Y3 all g with
  |none=>simp only[ht]at h;cases h
  |some t=>
   simp only[ht]at h;split at h
   ·rename_i x hx;cases h;unfold Y3 at ht;split at ht
    ·rename_i U B;have H:=(hS.lt g U t B ht).1;have y:t<a.tmps.size:=by
       rw[F.size];have:t+1<=n:=by simpa[Nat.blt]using H
       omega
     have j:=F.slots t;rw[hx]at j;simp only[Rel]at j;have Z:yielded all.toArray a.tmps g=some x:=by
      unfold yielded;have O:(all.toArray[g]?).bind (·.dst)=some t:=by rw[uAv,B];exact ht
      rw[O];simp only[uAs];have:a.tmps[t]? =some (.bool x):=by
       rw[uAD y];have J:a.tmps.getD t undef=a.tmps[t]:=by simp[y]
       rw[<-J,j]
      rw[this]
     simp only[Region.wanted,hg,Z];cases x<;>cases I<;>rfl
    ·cases ht
   ·rename_i hx;cases h;unfold Y3 at ht;split at ht
    ·rename_i U B;have H:=(hS.lt g U t B ht).1;have y:t<a.tmps.size:=by
       rw[F.size];have:t+1<=n:=by simpa[Nat.blt]using H
       omega
     have j:=F.slots t;rw[hx]at j;obtain⟨vs0,j,h0⟩:=j;have h0:vs0=[]:=h0;subst h0;have Z:yielded all.toArray a.tmps g=none:=by
      unfold yielded;have O:(all.toArray[g]?).bind (·.dst)=some t:=by rw[uAv,B];exact ht
      rw[O];simp only[uAs];have:a.tmps[t]? =some (.tuple #[]):=by
       rw[uAD y];have J:a.tmps.getD t undef=a.tmps[t]:=by simp[y]
       rw[<-J,j]
      rw[this]
     simp[Region.wanted,hg,Z]
    ·cases ht
   ·cases h
variable {GP : Ro -> Prop} {c : Base}
theorem zha(hm:E.P.follows .mixedOrders=true)(hΓ:∀C∈E.Γ,SoundC E.P GP C)(hgl:∀R,GP R->GlobOK E.gl R)(hst:Stays GP){ops:List Oper}{T:Type}{r:T}{k:St->Option T}{Q:Exit->Act->World->Prop}{st:St}{R:Ro}{G:List Res}
  {a:Act} {w:World} (F:Fit c E.n R G st a w) (I:GP R) {id:Nat} {alt:Option T} (halt:alt=some r->(Code.region id ops.toArray true).wp E.P Q a w) (h:JM E ops st alt k=some r) (hK:∀st' R' G' a' w',k st'=some r->Fit c E.n R' G' st' a' w'->GP R'->Q .normal a' w'):
  (Code.region id ops.toArray true).wp E.P Q a w:=by
 unfold JM at h;split at h
 ·rename_i hstat;have hS:=zpX hstat;obtain⟨G0,F0,hfree,hlen⟩:=F.wide (rsvAll ops);have hrun:=zqr (E:=E) (all:=ops) (base:=st.h.length) ops 0 ⟨st.s,wide st.h (rsvAll ops)⟩ (by simp) (by simpa[nidOf,rsvAll]using h);obtain⟨stn,hk,hrun⟩:=hrun;split at hk
  ·rename_i hpairs;have hA:∀(j k:Nat)(oj ok:Oper)(d:Nat),ops[j]? =some oj->ops[k]? =some ok->j<=k->k<ops.length->ok.dst=some d->d∉oj.looksAt ops.toArray:=by
    intro j k oj ok d B hk hjk hkM hd ht;rcases hS.look j oj d k B ht (hS.lt k ok d hk hd).2 with h|h
    ·have:=h.lt hS.edge;omega
    ·omega
   have hE:∀(j k:Nat)(oj ok:Oper)(d:Nat),ops[j]? =some oj->ops[k]? =some ok->j≠k->oj.dst=some d->ok.dst≠some d:=by intro j k oj ok d B hk hjk hd hd';have h1:=(hS.lt j oj d B hd).2;have h2:=(hS.lt k ok d hk hd').2;rw[h1]at h2;exact hjk (Option.some.inj h2)
   have hcm:c.m<=st.h.length:=F.since.many;refine wp_region_any hm ?_;let rem:Array Bool->List Nat:=fun y=>(List.range ops.length).filter fun j=>!y.getD j false
   have key:∀(J:Nat)(y:Array Bool)(s:St)(R:Ro)(G:List Res)(a:Act)(w:World),y.size=ops.length->(rem y).length<=J->
     (∀i,y.getD i false=true->∀o,ops[i]? =some o->∀e∈edgesOf o,y.getD e false=true)->Fit c E.n R G s a w->GP R->s.h.length=st.h.length+rsvAll ops->
     (∀i o,ops[i]? =some o->y.getD i false=false->FreeR s.h (nidOf ops st.h.length i) (rsv o))->RunS E ops st.h.length (rem y) s stn->wpAny E.P .any ops.toArray Q J y a w:=by
    intro J;have hend:∀(y:Array Bool)(s:St)(R:Ro)(G:List Res)(a:Act)(w:World),y.size=ops.length->Region.ready .any ops.toArray y=[]->Fit c E.n R G s a w->GP R->
      RunS E ops st.h.length (rem y) s stn->Q .normal a w:=by
     intro y s R G a w hsz hr F I hR;have hall:∀j,j<ops.length->y.getD j false=true:=by
      intro j;induction j using Nat.strongRecOn with
      |_ j ih=>
       intro B;cases hb:y.getD j false with
       |true=>rfl
       |false=>
        exfalso;have:j∈Region.ready .any ops.toArray y:=by
         rw[mem_ready];refine⟨?_,ops[j],by simp[B],fun e Z hbind=>?_⟩
         ·have H:j<y.size:=by omega
          simp[H]at hb⊢;exact hb
         ·have H:=hS.edge j ops[j] (by simp[B]) e.on (by
           unfold edgesOf;rw[uAn];exact⟨e,by simpa using Z,by simp[hbind]⟩)
          exact ih e.on H (by omega)
        rw[hr]at this;cases this
     have hnil:rem y=[]:=by rw[List.filter_eq_nil_iff];intro j B;simp[hall j (by simpa using B)]
     rw[hnil]at hR;have F':Fit c E.n R G stn a w:=⟨by rw[<-hR.2];exact F.wrel,by rw[<-hR.2];exact F.since,fun t=>by rw[<-hR.1 t,<-hR.2];exact F.slots t,F.defers,F.size⟩
     exact hK stn R G a w hk F' I
    induction J with
    |zero=>
     intro y s R G a w hsz hfu hcl F I hl hfr hR;have hr:Region.ready .any ops.toArray y=[]:=by
      rcases hc:Region.ready .any ops.toArray y with _|⟨i,r⟩
      ·rfl
      ·exfalso;have hi:i∈Region.ready .any ops.toArray y:=by rw[hc];simp
       rw[mem_ready]at hi;obtain⟨hun,o,ho,_⟩:=hi;have ho':ops[i]? =some o:=by simpa using ho
       have hilt:i<ops.length:=(kX.1 ho').1;have hil:i<y.size:=by omega
       have hSi:y.getD i false=false:=by simp[hil]at hun⊢;exact hun
       have:i∈rem y:=by show i∈(List.range ops.length).filter _;rw[nB];exact⟨by simpa using hilt,by rw[hSi];rfl⟩
       have:=List.length_pos_of_mem this;omega
     exact⟨hr,hend y s R G a w hsz hr F I hR⟩
    |succ J ih=>
     intro y s R G a w hsz hfu hcl F I hl hfr hR;refine⟨fun hr=>hend y s R G a w hsz hr F I hR,fun i hi=>?_⟩;rw[mem_ready]at hi;obtain⟨hun,o,ho,hall⟩:=hi;have ho':ops[i]? =some o:=by simpa using ho
     have hilt:i<ops.length:=(kX.1 ho').1;have hil:i<y.size:=by omega
     have hSi:y.getD i false=false:=by simp[hil]at hun⊢;exact hun
     have hdir:∀e∈edgesOf o,y.getD e false=true:=by
      intro e Z;unfold edgesOf at Z;rw[uAn]at Z;obtain⟨x,hx,hxe⟩:=Z;split at hxe
      ·rename_i hb;cases hxe;exact hall x (by simpa using hx) hb
      ·cases hxe
     have hanc:∀k j,Anc ops k j->y.getD k false=true->y.getD j false=true:=by
      intro k j h;induction h with
      |one h Z=>intro hk;exact hcl _ hk _ h _ Z
      |more h Z _ ih=>intro hk;exact ih (hcl _ hk _ h _ Z)
     have hanci:∀j,Anc ops i j->y.getD j false=true:=by
      intro j h;cases h with
      |one h Z=>rw[ho']at h;cases h;exact hdir _ Z
      |more h Z h'=>rw[ho']at h;cases h;exact hanc _ _ h' (hdir _ Z)
     have hset:∀j,(y.setIfInBounds i true).getD j false=(y.getD j false||Nat.beq j i):=by
      intro j;by_cases hji:j=i
      ·subst hji;simp[hil]
      ·have hne:¬i=j:=fun h=>hji h.symm
       have hb:Nat.beq j i=false:=by
        cases hb:Nat.beq j i with
        |false=>rfl
        |true=>exact absurd (kV hb) hji
       simp[hb,Array.getElem?_setIfInBounds_ne hne]
     obtain⟨l1,l2,g1,g2,g3⟩:=qt (p:=fun j=>!y.getD j false) (q:=fun j=>!(y.setIfInBounds i true).getD j false) (l:=List.range ops.length) uAK (by simpa using hilt) (by simp only[hSi];rfl)
      (fun j=>by rw[hset];cases y.getD j false<;>cases Nat.beq j i<;>rfl)
     have U:rem y=l1++i::l2:=g1;have hrem':rem (y.setIfInBounds i true)=l1++l2:=g2;have hunl:∀j∈l1++i::l2,y.getD j false=false:=by intro j B;rw[<-U]at B;have:=(nB.1 B).2;simpa using this
     rw[U]at hR;obtain⟨s',hstep,hR'⟩:=zAk ho' hA hE l1 s (fun k hk=>by rw[<-U]at hk;have:=(nB.1 hk).1;simpa using this) (by rw[<-U];exact List.Pairwise.filter _ uAK)
      (fun k hk ok d hok hd ht=>by
       rcases hS.look i o d k ho' ht (hS.lt k ok d hok hd).2 with h|h
       ·have:=hanci k h;rw[hunl k hk]at this;cases this
       ·have:=(kX.1 hok).1;omega)
      (fun j B oj O=>zeX hpairs ho' O (g3 j B) (fun hanc=>by have:=hanci j hanc;rw[hunl j (nN _ B)]at this;cases this)) (fun hb hr x hx=>hfr i o ho' hSi x (zd8 hb hr x hx).1 (zd8 hb hr x hx).2) hR
     obtain⟨o2,v,u,e1,e2,e3⟩:=hstep;rw[ho']at e1;cases e1;have next:∀(R':Ro)(G':List Res)(a':Act)(w':World),Fit c E.n R' G' s' a' w'->GP R'->Jm (nidOf ops st.h.length i) (rsv o) s.h s'.h->s'.h.length=s.h.length->
       wpAny E.P .any ops.toArray Q J (y.setIfInBounds i true) a' w':=by
      intro R' G' a' w' F' hGP' hno hlen';refine ih (y.setIfInBounds i true) s' R' G' a' w' (by simpa using hsz) (by rw[hrem'];rw[U]at hfu;simp at hfu⊢;omega) ?_ F' hGP' (by omega) ?_ (by rw[hrem'];exact hR')
      ·intro j B oj O e Z;rw[hset]at B⊢;simp only[nW]at B⊢;rcases B with B|B
       ·exact .inl (hcl j B oj O e Z)
       ·have:=kV B;subst this;rw[ho']at O;cases O;exact .inl (hdir e Z)
      ·intro j oj O B x hx1 hx2;rw[hset]at B;simp only[Bool.or_eq_false_iff]at B;have hne:j≠i:=fun e=>by rw[e]at B;simp at B
       refine hno x (fun hh=>?_) (hfr j oj O B.1 x hx1 hx2);rcases Nat.lt_or_gt_of_ne hne with H|H
       ·have:=js (base:=st.h.length) O ho' H;omega
       ·have:=js (base:=st.h.length) ho' O H;omega
     unfold wpOp;have hoA:ops.toArray[i]? =some o:=by simpa using ho'
     simp only[hoA];have hdst:zae E.n o.dst=true:=by
      cases hd:o.dst with
      |none=>rfl
      |some d=>exact (hS.lt i o d ho' hd).1
     rcases e3 with⟨hw,hloc⟩|⟨hw,rfl,rfl⟩
     ·rw[jJ F hS hw,if_pos rfl];have heff:=hloc.eff (AV×St) (fun v s=>some (v,s));refine .inl (Oper.wp_mono ?_ (JE hΓ hgl F I (show c.m<=nidOf ops st.h.length i by unfold nidOf;omega) (hfr i o ho' hSi) (by rw[hl];exact yZ ho') heff));rintro a' w' ⟨v',st',R',G',V,h1,rfl,h2,h3,h4,h5,h6⟩;simp only[Option.some.injEq,Prod.mk.injEq]at h1;obtain⟨rfl,rfl⟩:=h1;have F2:=h2.put hdst h3;exact next R' G' _ w' (by rw[e2];exact F2) (hst R R' h6 I) (by rw[e2];exact h4) (by rw[e2];exact h5)
     ·rw[jJ F hS hw];simp only[mR,if_false];have F2:=F.put (v:=.tup []) (V:=undef) hdst ⟨[],rfl,rfl⟩;exact next R G _ w (by rw[e2];exact F2) I (by rw[e2];exact fun _ _ h=>h) (by rw[e2];rfl)
   refine key ops.toArray.size _ ⟨st.s,wide st.h (rsvAll ops)⟩ R G0 a _ (by simp) ?_ ?_ (F0.keep (Keeps.drawn w _)) I hlen (fun i o hi _ x hx1 hx2=>hfree x (by unfold nidOf at hx1;omega)) ?_
   ·have h1:=List.length_filter_le (fun j=>!(Array.replicate ops.toArray.size false).getD j false) (List.range ops.length);have h2:(List.range ops.length).length<=ops.toArray.size:=by simp
    exact uAG h1 h2
   ·intro i hi;exfalso;by_cases H:i<ops.length
    ·simp[H]at hi
    ·simp[H]at hi
   ·have:rem (Array.replicate ops.toArray.size false)=List.range' 0 ops.length:=by
     show(List.range ops.length).filter _=_;rw[List.filter_eq_self.2,List.range_eq_range'];intro j B;have:j<ops.length:=by simpa using B
     simp[this]
    rw[this];exact hrun
  ·exact halt hk
 ·exact halt h
end
end Go.Am
