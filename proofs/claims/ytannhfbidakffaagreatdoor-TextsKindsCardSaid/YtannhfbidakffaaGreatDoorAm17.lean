/-
  A part of the proof of the laws.
-/
import Derived.Test.YtannhfbidakffaaGreatDoorAm16
namespace Go.Am
open Go Go.RowKit Go.Vc
section
variable {E : Env} {all : List Oper} {base : Nat}
theorem yH:∀{ops:List Oper}{i:Nat}{o:Oper},ops[i]? =some o->rsvAll (ops.take (i+1))=rsvAll (ops.take i)+rsv o
 |[],_,_,h=>by simp at h
 |x::r,0,o,h=>by simp at h;subst h;simp[rsvAll]
 |x::r,i+1,o,h=>by have:=yH (ops:=r) (i:=i) (o:=o) (by simpa using h);simp only[uAe,rsvAll]at this⊢;omega
theorem zdz:∀(ops:List Oper)(i j:Nat),i<=j->rsvAll (ops.take i)<=rsvAll (ops.take j)
 |[],_,_,_=>sI
 |x::r,0,j,_=>by simp[rsvAll]
 |x::r,i+1,0,h=>oM
 |x::r,i+1,j+1,h=>by have:=zdz r i j oM;simp only[uAe,rsvAll];omega
theorem jE{i j:Nat}{H I:Oper}(hi:all[i]? =some H)(_:all[j]? =some I)(B:i<j):nidOf all base i+rsv H<=nidOf all base j:=by unfold nidOf;have J:=yH hi;have O:=zdz all (i+1) j B;omega
theorem qM{i:Nat}{o:Oper}(hi:all[i]? =some o):nidOf all base i+rsv o<=base+rsvAll all:=by unfold nidOf;have B:=yH hi;have j:=zdz all (i+1) all.length (by have:=(mG.1 hi).1;omega);rw[List.take_length]at j;omega
theorem zvw{T:Type}{k:St->Option T}{r:T}:∀(ops:List Oper)(i:Nat)(st:St),all.drop i=ops->j1 E true all ops (nidOf all base i) st k=some r->
  ∃B,k B=some r/\RunS E all base (List.range' i ops.length) st B:=by
 intro ops;induction ops with
 |nil=>intro i st _ h;exact⟨st,h,Eqv.refl _⟩
 |cons o H ih=>
  intro i st O h;have hi:all[i]? =some o:=by have:=congrArg (·[0]?) O;simpa[List.getElem?_drop]using this
  have J:all.drop (i+1)=H:=by have:=congrArg (List.drop 1) O;simpa[List.drop_drop,Nat.add_comm]using this
  have hnid:nidOf all base i+rsv o=nidOf all base (i+1):=by unfold nidOf;have:=yH hi;omega
  rw[mM,List.range'_succ];simp only[j1,hnid]at h;split at h
  ·cases h
  ·have go:∀(j:St),Eqv j st->zx all o st=some true->opK E true (nidOf all base i) o.op j (fun v st'=>j1 E true all H (nidOf all base (i+1)) ⟨putO o.dst v st'.s,st'.h⟩ k)=some r->
     ∃B,k B=some r/\RunS E all base (i::List.range' (i+1) H.length) st B:=by
    intro j S Y h0;obtain⟨v,u,h1,h2⟩:=WO h0;obtain⟨B,h5,h6⟩:=ih (i+1) _ J h1;have I:StepS E all base i j ⟨putO o.dst v j.s,jR j.h u⟩:=⟨o,v,u,hi,rfl,.inl ⟨(zu (fun t _=>S.1 t)).trans Y,h2⟩⟩
    obtain⟨Z,h7,h8⟩:=I.eqv S;exact⟨B,h5,Z,h7,h6.eqv h8⟩
   have no:∀(j:St),Eqv j st->zx all o st=some false->j1 E true all H (nidOf all base (i+1)) ⟨putO o.dst (.tup []) j.s,j.h⟩ k=some r->
     ∃B,k B=some r/\RunS E all base (i::List.range' (i+1) H.length) st B:=by
    intro j S Y h0;obtain⟨B,h5,h6⟩:=ih (i+1) _ J h0;have I:StepS E all base i j ⟨putO o.dst (.tup []) j.s,jR j.h []⟩:=⟨o,.tup [],[],hi,rfl,.inr ⟨(zu (fun t _=>S.1 t)).trans Y,rfl,rfl⟩⟩
    obtain⟨Z,h7,h8⟩:=I.eqv S;exact⟨B,h5,Z,h7,h6.eqv h8⟩
   split at h
   ·rename_i hg;exact go st (Eqv.refl _) (by unfold zx;rw[hg]) h
   ·rename_i g U hg;split at h
    ·rename_i t ht;split at h
     ·rename_i b hlt hb;have Y:zx all o st=some (b==U):=by unfold zx;simp only[hg,ht,hb]
      have S:Eqv ⟨put t (.bool b) st.s,st.h⟩ st:=by
       refine⟨fun x=>?_,rfl⟩;show get (put t (.bool b) st.s) x=get st.s x;rw[js];split
       ·rename_i e;subst e;exact hb.symm
       ·rfl
      cases b<;>cases U<;>simp only[cond_true,cond_false]at h
      ·exact go _ S Y h
      ·exact no _ S Y h
      ·exact no _ S Y h
      ·exact go _ S Y h
     ·rename_i hlt hb;exact no st (Eqv.refl _) (by unfold zx;simp only[hg,ht,hb]) h
     ·cases h
    ·cases h
structure StatOk(n L:Nat)(ops:List Oper):Prop where
 edge:∀(i:Nat)(o:Oper),ops[i]? =some o->∀e∈edgesOf o,e<i
 lt:∀(i:Nat)(o:Oper)(d:Nat),ops[i]? =some o->o.dst=some d->Nat.blt d n=true/\wrFrom ops 0 d=some i
 look:∀(i:Nat)(o:Oper)(t j:Nat),ops[i]? =some o->t∈o.looksAt ops.toArray->wrFrom ops 0 t=some j->Anc ops i j\/L<=j
theorem zuY{n:Nat}{ops:List Oper}(h:zlV n ops=true):StatOk n ops.length ops:=by
 unfold zlV at h;simp only[]at h;refine⟨fun i o hi e J=>?_,fun i o d hi Y=>?_,fun i o t j hi Z S=>?_⟩;all_goals
  have B:=j3 h hi;simp only[mF]at B;obtain⟨⟨B,H⟩,O⟩:=B
 ·have:=mT.1 B e J;have:e+1<=i:=by simpa[Nat.blt]using this
  omega
 ·rw[Y]at H;simp only[mF]at H;obtain⟨U,I⟩:=H;refine⟨U,?_⟩;split at I
  ·rename_i j hj;rw[hj,mE I]
  ·cases I
 ·have:=mT.1 O t Z;rw[S]at this;exact .inl (zV (zG.1 this))
theorem zrd{n m:Nat}{ops:List Oper}(h:zcm n m ops=true):StatOk n (ops.length-m) ops:=by
 unfold zcm at h;simp only[]at h;refine⟨fun i o hi e J=>?_,fun i o d hi Y=>?_,fun i o t j hi Z S=>?_⟩;all_goals
  have B:=j3 h hi;simp only[mF]at B;obtain⟨⟨B,H⟩,O⟩:=B
 ·have:=mT.1 B e J;have:e+1<=i:=by simpa[Nat.blt]using this
  omega
 ·rw[Y]at H;simp only[mF]at H;obtain⟨U,I⟩:=H;refine⟨U,?_⟩;split at I
  ·rename_i j hj;rw[hj,mE I]
  ·cases I
 ·have:=mT.1 O t Z;rw[S]at this;simp only[nO]at this;rcases this with this|this
  ·exact .inl (zV (zG.1 this))
  ·exact .inr (mQ this)
theorem zhC{ops:List Oper}{st:St}(h:zfJ E ops base st=true){i j:Nat}{I H:Oper}(hi:ops[i]? =some I)(U:ops[j]? =some H)(J:j<i)(S:¬Anc ops i j):
  Vo (fpW E ops st (nidOf ops base j) H) (fpW E ops st (nidOf ops base i) I)=true:=by
 unfold zfJ at h;simp only[]at h;have hget:∀(k:Nat)(o:Oper),ops[k]? =some o->(ops.zipIdx.map fun(o,i)=>fpW E ops st (nidOf ops base i) o)[k]? =some (fpW E ops st (nidOf ops base k) o):=by intro k o hk;simp only[nK,List.getElem?_zipIdx,hk,uAA,uAn]
 have O:=j3 h (hget i I hi);simp only[]at O;have B:=j3 O (i:=j) (x:=fpW E ops st (nidOf ops base j) H) (by rw[List.getElem?_take,if_pos J];exact hget j H U);simp only[nO]at B;rcases B with B|B
 ·exact absurd (zV (zG.1 B)) S
 ·exact B
theorem Zo{p q:Nat->Bool}{i:Nat}:∀{l:List Nat},l.Pairwise (· < ·)->i∈l->p i=true->(∀j,q j=(p j&&!(Nat.beq j i)))->
  ∃H J,l.filter p=H++i::J/\l.filter q=H++J/\(∀j∈H,j<i)
 |[],_,h,_,_=>by cases h
 |x::r,I,hi,hp,hq=>by
  have I:=uAL.1 I;by_cases S:x=i
  ·subst S;have B:q x=false:=by rw[hq];simp
   have hr:r.filter q=r.filter p:=List.filter_congr fun j O=>by
    rw[hq];have:Nat.beq j x=false:=by
     cases hb:Nat.beq j x with
     |false=>rfl
     |true=>have:=mE hb;have:=I.1 j O;omega
    simp[this]
   exact⟨[],r.filter p,by simp[hp],by simp[B,hr],sI⟩
  ·have hi':i∈r:=by rcases nB.1 hi with h|h;exact absurd h.symm S;exact h
   obtain⟨H,J,Y,h2,Z⟩:=Zo I.2 hi' hp hq;have U:x<i:=I.1 i hi';have B:q x=p x:=by
    rw[hq];have:Nat.beq x i=false:=by
     cases hb:Nat.beq x i with
     |false=>rfl
     |true=>exact absurd (mE hb) S
    simp[this]
   cases hpx:p x with
   |true=>exact⟨x::H,J,by simp[hpx,Y],by simp[B,hpx,h2],fun j O=>by rcases nB.1 O with rfl|O;exact U;exact Z j O⟩
   |false=>exact⟨H,J,by simp[hpx,Y],by simp[B,hpx,h2],Z⟩
theorem jV{o:Oper}{st:St}{R:Ro}{G:List Res}{c:Base}{n L:Nat}{a:Act}{w:World}(F:Fit c n R G st a w)(hS:StatOk n L all){b:Bool}(h:zx all o st=some b):
  Region.wanted o (yielded all.toArray a.tmps)=b:=by
 unfold zx at h;cases hg:o.guard with
 |none=>rw[hg]at h;cases h;simp[Region.wanted,hg]
 |some gw=>
  obtain⟨g,J⟩:=gw;rw[hg]at h;cases ht:KP all g with
  |none=>simp only[ht]at h;cases h
  |some t=>
   simp only[ht]at h;split at h
   ·rename_i x Y;cases h;unfold KP at ht;split at ht
    ·rename_i og H;have I:=(hS.lt g og t H ht).1;have B:t<a.tmps.size:=by
       rw[F.size];have:t+1<=n:=by simpa[Nat.blt]using I
       omega
     have j:=F.slots t;rw[Y]at j;simp only[Rel]at j;have Z:yielded all.toArray a.tmps g=some x:=by
      unfold yielded;have O:(all.toArray[g]?).bind (·.dst)=some t:=by rw[uAI,H];exact ht
      rw[O];simp only[uAq];have:a.tmps[t]? =some (.bool x):=by
       rw[uAG B];have U:a.tmps.getD t undef=a.tmps[t]:=by simp[B]
       rw[<-U,j]
      rw[this]
     simp only[Region.wanted,hg,Z];cases x<;>cases J<;>rfl
    ·cases ht
   ·rename_i Y;cases h;unfold KP at ht;split at ht
    ·rename_i og H;have I:=(hS.lt g og t H ht).1;have B:t<a.tmps.size:=by
       rw[F.size];have:t+1<=n:=by simpa[Nat.blt]using I
       omega
     have j:=F.slots t;rw[Y]at j;obtain⟨vs0,j,S⟩:=j;have S:vs0=[]:=S;subst S;have Z:yielded all.toArray a.tmps g=none:=by
      unfold yielded;have O:(all.toArray[g]?).bind (·.dst)=some t:=by rw[uAI,H];exact ht
      rw[O];simp only[uAq];have:a.tmps[t]? =some (.tuple #[]):=by
       rw[uAG B];have U:a.tmps.getD t undef=a.tmps[t]:=by simp[B]
       rw[<-U,j]
      rw[this]
     simp[Region.wanted,hg,Z]
    ·cases ht
   ·cases h
variable {GP : Ro -> Prop} {c : Base}
theorem zvz(hm:E.P.follows .mixedOrders=true)(hΓ:∀C∈E.Γ,SoundC E.P GP C)(hgl:∀R,GP R->GlobOK E.gl R)(hst:Stays GP){ops:List Oper}{T:Type}{r:T}{k:St->Option T}{Q:Exit->Act->World->Prop}{st:St}{R:Ro}{G:List Res}
  {a:Act} {w:World} (F:Fit c E.n R G st a w) (I:GP R) {id:Nat} {alt:Option T} (halt:alt=some r->(Code.region id ops.toArray true).wp E.P Q a w) (h:zd0 E ops st alt k=some r) (hK:∀st' R' G' a' w',k st'=some r->Fit c E.n R' G' st' a' w'->GP R'->Q .normal a' w'):
  (Code.region id ops.toArray true).wp E.P Q a w:=by
 unfold zd0 at h;split at h
 ·rename_i hstat;have hS:=zuY hstat;obtain⟨G0,F0,hfree,hlen⟩:=F.wide (rsvAll ops);have hrun:=zvw (E:=E) (all:=ops) (base:=st.h.length) ops 0 ⟨st.s,wide st.h (rsvAll ops)⟩ sI (by simpa[nidOf,rsvAll]using h);obtain⟨stn,hk,hrun⟩:=hrun;split at hk
  ·rename_i hpairs;have hA:∀(j k:Nat)(Z ok:Oper)(d:Nat),ops[j]? =some Z->ops[k]? =some ok->j<=k->k<ops.length->ok.dst=some d->d∉Z.looksAt ops.toArray:=by
    intro j k Z ok d H hk hjk hkM hd ht;rcases hS.look j Z d k H ht (hS.lt k ok d hk hd).2 with h|h
    ·have:=h.lt hS.edge;omega
    ·omega
   have hE:∀(j k:Nat)(Z ok:Oper)(d:Nat),ops[j]? =some Z->ops[k]? =some ok->j≠k->Z.dst=some d->ok.dst≠some d:=by intro j k Z ok d H hk hjk hd hd';have h1:=(hS.lt j Z d H hd).2;have h2:=(hS.lt k ok d hk hd').2;rw[h1]at h2;exact hjk (Option.some.inj h2)
   have hcm:c.m<=st.h.length:=F.since.many;refine wp_region_any hm ?_;let rem:Array Bool->List Nat:=fun B=>(List.range ops.length).filter fun j=>!B.getD j false
   have key:∀(O:Nat)(B:Array Bool)(s:St)(R:Ro)(G:List Res)(a:Act)(w:World),B.size=ops.length->(rem B).length<=O->
     (∀i,B.getD i false=true->∀o,ops[i]? =some o->∀e∈edgesOf o,B.getD e false=true)->Fit c E.n R G s a w->GP R->s.h.length=st.h.length+rsvAll ops->
     (∀i o,ops[i]? =some o->B.getD i false=false->FreeR s.h (nidOf ops st.h.length i) (rsv o))->RunS E ops st.h.length (rem B) s stn->wpAny E.P .any ops.toArray Q O B a w:=by
    intro O;have hend:∀(B:Array Bool)(s:St)(R:Ro)(G:List Res)(a:Act)(w:World),B.size=ops.length->Region.ready .any ops.toArray B=[]->Fit c E.n R G s a w->GP R->
      RunS E ops st.h.length (rem B) s stn->Q .normal a w:=by
     intro B s R G a w hsz hr F I hR;have hall:∀j,j<ops.length->B.getD j false=true:=by
      intro j;induction j using Nat.strongRecOn with
      |_ j ih=>
       intro H;cases hb:B.getD j false with
       |true=>rfl
       |false=>
        exfalso;have:j∈Region.ready .any ops.toArray B:=by
         rw[mem_ready];refine⟨?_,ops[j],by simp[H],fun e Y hbind=>?_⟩
         ·have J:j<B.size:=oM
          simp[J]at hb⊢;exact hb
         ·have J:=hS.edge j ops[j] (by simp[H]) e.on (by
           unfold edgesOf;rw[uAs];exact⟨e,by simpa using Y,by simp[hbind]⟩)
          exact ih e.on J oM
        rw[hr]at this;cases this
     have hnil:rem B=[]:=by rw[List.filter_eq_nil_iff];intro j H;simp[hall j (by simpa using H)]
     rw[hnil]at hR;have F':Fit c E.n R G stn a w:=⟨by rw[<-hR.2];exact F.wrel,by rw[<-hR.2];exact F.since,fun t=>by rw[<-hR.1 t,<-hR.2];exact F.slots t,F.defers,F.size⟩
     exact hK stn R G a w hk F' I
    induction O with
    |zero=>
     intro B s R G a w hsz hfu hcl F I hl hfr hR;have hr:Region.ready .any ops.toArray B=[]:=by
      rcases hc:Region.ready .any ops.toArray B with _|⟨i,r⟩
      ·rfl
      ·exfalso;have hi:i∈Region.ready .any ops.toArray B:=by rw[hc];simp
       rw[mem_ready]at hi;obtain⟨hun,o,ho,_⟩:=hi;have ho':ops[i]? =some o:=by simpa using ho
       have hilt:i<ops.length:=(mG.1 ho').1;have hil:i<B.size:=oM
       have hSi:B.getD i false=false:=by simp[hil]at hun⊢;exact hun
       have:i∈rem B:=by show i∈(List.range ops.length).filter _;rw[nP];exact⟨by simpa using hilt,by rw[hSi];rfl⟩
       have:=List.length_pos_of_mem this;omega
     exact⟨hr,hend B s R G a w hsz hr F I hR⟩
    |succ O ih=>
     intro B s R G a w hsz hfu hcl F I hl hfr hR;refine⟨fun hr=>hend B s R G a w hsz hr F I hR,fun i hi=>?_⟩;rw[mem_ready]at hi;obtain⟨hun,o,ho,hall⟩:=hi;have ho':ops[i]? =some o:=by simpa using ho
     have hilt:i<ops.length:=(mG.1 ho').1;have hil:i<B.size:=oM
     have hSi:B.getD i false=false:=by simp[hil]at hun⊢;exact hun
     have hdir:∀e∈edgesOf o,B.getD e false=true:=by
      intro e Y;unfold edgesOf at Y;rw[uAs]at Y;obtain⟨x,hx,hxe⟩:=Y;split at hxe
      ·rename_i hb;cases hxe;exact hall x (by simpa using hx) hb
      ·cases hxe
     have hanc:∀k j,Anc ops k j->B.getD k false=true->B.getD j false=true:=by
      intro k j h;induction h with
      |one h Y=>intro hk;exact hcl _ hk _ h _ Y
      |more h Y _ ih=>intro hk;exact ih (hcl _ hk _ h _ Y)
     have hanci:∀j,Anc ops i j->B.getD j false=true:=by
      intro j h;cases h with
      |one h Y=>rw[ho']at h;cases h;exact hdir _ Y
      |more h Y h'=>rw[ho']at h;cases h;exact hanc _ _ h' (hdir _ Y)
     have hset:∀j,(B.setIfInBounds i true).getD j false=(B.getD j false||Nat.beq j i):=by
      intro j;by_cases hji:j=i
      ·subst hji;simp[hil]
      ·have hne:¬i=j:=fun h=>hji h.symm
       have hb:Nat.beq j i=false:=by
        cases hb:Nat.beq j i with
        |false=>rfl
        |true=>exact absurd (mE hb) hji
       simp[hb,Array.getElem?_setIfInBounds_ne hne]
     obtain⟨l1,l2,g1,g2,g3⟩:=Zo (p:=fun j=>!B.getD j false) (q:=fun j=>!(B.setIfInBounds i true).getD j false) (l:=List.range ops.length) uAP (by simpa using hilt) (by simp only[hSi];rfl)
      (fun j=>by rw[hset];cases B.getD j false<;>cases Nat.beq j i<;>rfl)
     have U:rem B=l1++i::l2:=g1;have hrem':rem (B.setIfInBounds i true)=l1++l2:=g2;have hunl:∀j∈l1++i::l2,B.getD j false=false:=by intro j H;rw[<-U]at H;have:=(nP.1 H).2;simpa using this
     rw[U]at hR;obtain⟨s',hstep,hR'⟩:=zDD ho' hA hE l1 s (fun k hk=>by rw[<-U]at hk;have:=(nP.1 hk).1;simpa using this) (by rw[<-U];exact List.Pairwise.filter _ uAP)
      (fun k hk ok d hok hd ht=>by
       rcases hS.look i o d k ho' ht (hS.lt k ok d hok hd).2 with h|h
       ·have:=hanci k h;rw[hunl k hk]at this;cases this
       ·have:=(mG.1 hok).1;omega)
      (fun j H Z S=>zhC hpairs ho' S (g3 j H) (fun hanc=>by have:=hanci j hanc;rw[hunl j (uAc _ H)]at this;cases this)) (fun hb hr x hx=>hfr i o ho' hSi x (zgK hb hr x hx).1 (zgK hb hr x hx).2) hR
     obtain⟨o2,v,u,e1,e2,e3⟩:=hstep;rw[ho']at e1;cases e1;have next:∀(R':Ro)(G':List Res)(a':Act)(w':World),Fit c E.n R' G' s' a' w'->GP R'->YW (nidOf ops st.h.length i) (rsv o) s.h s'.h->s'.h.length=s.h.length->
       wpAny E.P .any ops.toArray Q O (B.setIfInBounds i true) a' w':=by
      intro R' G' a' w' F' hGP' hno hlen';refine ih (B.setIfInBounds i true) s' R' G' a' w' (by simpa using hsz) (by rw[hrem'];rw[U]at hfu;simp at hfu⊢;omega) ?_ F' hGP' oM ?_ (by rw[hrem'];exact hR')
      ·intro j H Z S e Y;rw[hset]at H⊢;simp only[nO]at H⊢;rcases H with H|H
       ·exact .inl (hcl j H Z S e Y)
       ·have:=mE H;subst this;rw[ho']at S;cases S;exact .inl (hdir e Y)
      ·intro j Z S H x hx1 hx2;rw[hset]at H;simp only[Bool.or_eq_false_iff]at H;have hne:j≠i:=fun e=>by rw[e]at H;simp at H
       refine hno x (fun hh=>?_) (hfr j Z S H.1 x hx1 hx2);rcases Nat.lt_or_gt_of_ne hne with J|J
       ·have:=jE (base:=st.h.length) S ho' J;omega
       ·have:=jE (base:=st.h.length) ho' S J;omega
     unfold wpOp;have hoA:ops.toArray[i]? =some o:=by simpa using ho'
     simp only[hoA];have hdst:zcX E.n o.dst=true:=by
      cases hd:o.dst with
      |none=>rfl
      |some d=>exact (hS.lt i o d ho' hd).1
     rcases e3 with⟨hw,hloc⟩|⟨hw,rfl,rfl⟩
     ·rw[jV F hS hw,if_pos rfl];have heff:=hloc.eff (AV×St) (fun v s=>some (v,s));refine .inl (Oper.wp_mono ?_ (Qs hΓ hgl F I (show c.m<=nidOf ops st.h.length i by unfold nidOf;omega) (hfr i o ho' hSi) (by rw[hl];exact qM ho') heff));rintro a' w' ⟨v',st',R',G',V,h1,rfl,h2,h3,h4,h5,h6⟩;simp only[Option.some.injEq,Prod.mk.injEq]at h1;obtain⟨rfl,rfl⟩:=h1;have F2:=h2.put hdst h3;exact next R' G' _ w' (by rw[e2];exact F2) (hst R R' h6 I) (by rw[e2];exact h4) (by rw[e2];exact h5)
     ·rw[jV F hS hw];simp only[nA,if_false];have F2:=F.put (v:=.tup []) (V:=undef) hdst ⟨[],rfl,rfl⟩;exact next R G _ w (by rw[e2];exact F2) I (by rw[e2];exact fun _ _ h=>h) (by rw[e2];rfl)
   refine key ops.toArray.size _ ⟨st.s,wide st.h (rsvAll ops)⟩ R G0 a _ sI ?_ ?_ (F0.keep (Keeps.drawn w _)) I hlen (fun i o hi _ x hx1 hx2=>hfree x (by unfold nidOf at hx1;omega)) ?_
   ·have h1:=List.length_filter_le (fun j=>!(Array.replicate ops.toArray.size false).getD j false) (List.range ops.length);have h2:(List.range ops.length).length<=ops.toArray.size:=sI
    exact nD h1 h2
   ·intro i hi;exfalso;by_cases J:i<ops.length
    ·simp[J]at hi
    ·simp[J]at hi
   ·have:rem (Array.replicate ops.toArray.size false)=List.range' 0 ops.length:=by
     show(List.range ops.length).filter _=_;rw[List.filter_eq_self.2,List.range_eq_range'];intro j H;have:j<ops.length:=by simpa using H
     simp[this]
    rw[this];exact hrun
  ·exact halt hk
 ·exact halt h
end
end Go.Am
