/-
  A part of the proof of the laws.
-/
import Derived.Test.YtodebhabandljaaGreatDoorAm28
namespace Go.Am
open Go Go.RowKit Go.Vc
section
variable {E : Env} {all : List Oper} {base : Nat}
theorem znh{T:Type}{k:St->Option T}{r:T}:∀(ops:List Oper)(i:Nat)(st:St),(∃tl,all.drop i=ops++tl)->jN E true all ops (nidOf all base i) st k=some r->
  ∃y,k y=some r/\RunS E all base (List.range' i ops.length) st y:=by
 intro ops;induction ops with
 |nil=>intro i st _ h;exact⟨st,h,Eqv.refl _⟩
 |cons o H ih=>
  intro i st B h;obtain⟨tl,B⟩:=B;have hi:all[i]? =some o:=by have:=congrArg (·[0]?) B;simpa[List.getElem?_drop]using this
  have J:∃tl,all.drop (i+1)=H++tl:=⟨tl,by have:=congrArg (List.drop 1) B;simpa[List.drop_drop,Nat.add_comm]using this⟩
  have hnid:nidOf all base i+rsv o=nidOf all base (i+1):=by unfold nidOf;have:=yp hi;omega
  rw[mC,List.range'_succ];simp only[jN,hnid]at h;split at h
  ·cases h
  ·have go:∀(j:St),Eqv j st->zC all o st=some true->opK E true (nidOf all base i) o.op j (fun v st'=>jN E true all H (nidOf all base (i+1)) ⟨putO o.dst v st'.s,st'.h⟩ k)=some r->
     ∃y,k y=some r/\RunS E all base (i::List.range' (i+1) H.length) st y:=by
    intro j O Z h0;obtain⟨v,u,h1,h2⟩:=XD h0;obtain⟨y,h5,h6⟩:=ih (i+1) _ J h1;have I:StepS E all base i j ⟨putO o.dst v j.s,jF j.h u⟩:=⟨o,v,u,hi,rfl,.inl ⟨(zy (fun t _=>O.1 t)).trans Z,h2⟩⟩
    obtain⟨st2,h7,h8⟩:=I.eqv O;exact⟨y,h5,st2,h7,h6.eqv h8⟩
   have no:∀(j:St),Eqv j st->zC all o st=some false->jN E true all H (nidOf all base (i+1)) ⟨putO o.dst (.tup []) j.s,j.h⟩ k=some r->
     ∃y,k y=some r/\RunS E all base (i::List.range' (i+1) H.length) st y:=by
    intro j O Z h0;obtain⟨y,h5,h6⟩:=ih (i+1) _ J h0;have I:StepS E all base i j ⟨putO o.dst (.tup []) j.s,jF j.h []⟩:=⟨o,.tup [],[],hi,rfl,.inr ⟨(zy (fun t _=>O.1 t)).trans Z,rfl,rfl⟩⟩
    obtain⟨st2,h7,h8⟩:=I.eqv O;exact⟨y,h5,st2,h7,h6.eqv h8⟩
   split at h
   ·rename_i hg;exact go st (Eqv.refl _) (by unfold zC;rw[hg]) h
   ·rename_i g U hg;split at h
    ·rename_i t ht;split at h
     ·rename_i b hlt hb;have Z:zC all o st=some (b==U):=by unfold zC;simp only[hg,ht,hb]
      have O:Eqv ⟨put t (.bool b) st.s,st.h⟩ st:=by
       refine⟨fun x=>?_,rfl⟩;show get (put t (.bool b) st.s) x=get st.s x;rw[jf];split
       ·rename_i e;subst e;exact hb.symm
       ·rfl
      cases b<;>cases U<;>simp only[cond_true,cond_false]at h
      ·exact go _ O Z h
      ·exact no _ O Z h
      ·exact no _ O Z h
      ·exact go _ O Z h
     ·rename_i hlt hb;exact no st (Eqv.refl _) (by unfold zC;simp only[hg,ht,hb]) h
     ·cases h
    ·cases h
theorem zpz{m:Nat}{ops:List Oper}(h:Kq m ops=true):m<=ops.length/\∀i o,ops.length-m<=i->ops[i]? =some o->o.guard=none/\∀j,j<i->Anc ops i j:=by
 unfold Kq at h;simp only[kY]at h;obtain⟨y,U⟩:=h;have y:=mI y;refine⟨y,fun i o hi ho=>?_⟩;have Z:i<ops.length:=(kX.1 ho).1;have:=mK.1 U (i-(ops.length-m)) (by rw[List.mem_range];omega);rw[show ops.length-m+(i-(ops.length-m))=i by omega,ho]at this;split at this
 ·rename_i o' l O J;cases O;rw[kY]at this;refine⟨?_,fun j I=>?_⟩
  ·have B:=this.1;split at B
   ·assumption
   ·cases B
  ·have H:=mK.1 this.2 j (by simpa using I);refine zU ?_;rw[J];exact zA.1 H
 ·cases this
variable {GP : Ro -> Prop} {c : Base}
theorem zqq(hΓ:∀C∈E.Γ,SoundC E.P GP C)(hgl:∀R,GP R->GlobOK E.gl R)(hst:Stays GP){ops:List Oper}{T:Type}{r:T}{k:St->Option T}{Q:Exit->Act->World->Prop}{L base:Nat}(hS:StatOk E.n L ops)(hcm:c.m<=base)
  (hT:∀i o,L<=i->ops[i]? =some o->o.guard=none/\(L<i->∀j,j<i->Anc ops i j)) (hK:∀st' R' G' a' w',k st'=some r->Fit c E.n R' G' st' a' w'->GP R'->Q .normal a' w'):
  ∀(m p H:Nat)(B:Array Bool)(s:St)(R:Ro)(G:List Res)(a:Act)(w:World),p+m=ops.length->L<=p->B.size=ops.length->(∀j,j<ops.length->B.getD j false=decide (j<p))->m<=H->
   Fit c E.n R G s a w->GP R->s.h.length=base+rsvAll ops->(∀i o,p<=i->ops[i]? =some o->FreeR s.h (nidOf ops base i) (rsv o))->jN E false ops (ops.drop p) (nidOf ops base p) s k=some r->wpAny E.P .any ops.toArray Q H B a w:=by
 intro m;induction m with
 |zero=>
  intro p H B s R G a w hp _ hsz Z _ F hGP _ _ h;rw[nS (by omega)]at h;have hQ:=hK _ R G a w h F hGP;have hrdy:Region.ready .any ops.toArray B=[]:=by
   rcases hc:Region.ready .any ops.toArray B with _|⟨j,r⟩
   ·rfl
   ·exfalso;have hj:j∈Region.ready .any ops.toArray B:=by rw[hc];simp
    rw[mem_ready]at hj;obtain⟨U,o',ho',_⟩:=hj;have hjlt:j<ops.length:=(kX.1 (show ops[j]? =some o' by simpa using ho')).1;have:=Z j hjlt;have hjl:j<B.size:=by omega
    have hSj:B.getD j false=false:=by simp[hjl]at U⊢;exact U
    rw[this,decide_eq_true (by omega)]at hSj;cases hSj
  cases H with
  |zero=>exact⟨hrdy,hQ⟩
  |succ H=>exact⟨fun _=>hQ,fun j hj=>by rw[hrdy]at hj;cases hj⟩
 |succ m ih=>
  intro p H B s R G a w hp hLp hsz Z hfu F hGP hlen hfr h;obtain⟨f,rfl⟩:∃f,H=f+1:=⟨H-1,by omega⟩
  have J:p<ops.length:=by omega
  obtain⟨o,ho⟩:∃o,ops[p]? =some o:=⟨ops[p],kZ J⟩
  obtain⟨hg,hTp⟩:=hT p o hLp ho;have hdp:ops.drop p=o::ops.drop (p+1):=by rw[nH J];congr 1;exact Option.some.inj ((kZ J).symm.trans ho)
  have hnid:nidOf ops base p+rsv o=nidOf ops base (p+1):=by unfold nidOf;have:=yp ho;omega
  have hlp:B.getD p false=false:=by rw[Z p J];exact decide_eq_false (by omega)
  have hdst:zae E.n o.dst=true:=by
   cases hd:o.dst with
   |none=>rfl
   |some d=>exact (hS.lt p o d ho hd).1
  rw[hdp]at h;simp only[jN,hnid,hdst,hg]at h;have hpr:p∈Region.ready .any ops.toArray B:=by
   rw[mem_ready];refine⟨?_,o,by simpa using ho,fun e O hbind=>?_⟩
   ·have hlt:p<B.size:=by omega
    simp[hlt]at hlp⊢;exact hlp
   ·have hlt:=hS.edge p o ho e.on (by
     unfold edgesOf;rw[uAn];exact⟨e,by simpa using O,by simp[hbind]⟩)
    rw[Z e.on (by omega)];exact decide_eq_true hlt
  refine⟨(fun hr=>by rw[hr]at hpr;cases hpr),fun i hi=>?_⟩;have hip:i=p:=by
   rw[mem_ready]at hi;obtain⟨U,oi,hoi,hall⟩:=hi;have I:ops[i]? =some oi:=by simpa using hoi
   have hilt:i<ops.length:=(kX.1 I).1;have hil:i<B.size:=by omega
   have hSi:B.getD i false=false:=by simp[hil]at U⊢;exact U
   rw[Z i hilt]at hSi;have hpi:p<=i:=by have:=of_decide_eq_false hSi;omega
   by_cases hne:i=p
   ·exact hne
   exfalso;have hanc:=(hT i oi (by omega) I).2 (by omega) p (by omega);have hcl:∀x y,Anc ops x y->B.getD x false=true->B.getD y false=true:=by
    intro x y hxy;induction hxy with
    |one hx O=>intro hk;have hxl:_<ops.length:=(kX.1 hx).1;have:=hS.edge _ _ hx _ O;rw[Z _ hxl]at hk;rw[Z _ (by omega)];have:=of_decide_eq_true hk;exact decide_eq_true (by omega)
    |more hx O _ ih2=>intro hk;refine ih2 ?_;have hxl:_<ops.length:=(kX.1 hx).1;have:=hS.edge _ _ hx _ O;rw[Z _ hxl]at hk;rw[Z _ (by omega)];have:=of_decide_eq_true hk;exact decide_eq_true (by omega)
   have hdir:∀e∈edgesOf oi,B.getD e false=true:=by
    intro e O;unfold edgesOf at O;rw[uAn]at O;obtain⟨x,hx,hxe⟩:=O;split at hxe
    ·rename_i hb;cases hxe;exact hall x (by simpa using hx) hb
    ·cases hxe
   have:B.getD p false=true:=by
    cases hanc with
    |one h O=>rw[I]at h;cases h;exact hdir _ O
    |more h O h'=>rw[I]at h;cases h;exact hcl _ _ h' (hdir _ O)
   rw[hlp]at this;cases this
  subst hip;unfold wpOp;have hoA:ops.toArray[i]? =some o:=by simpa using ho
  simp only[hoA];have hwant:Region.wanted o (yielded ops.toArray a.tmps)=true:=by unfold Region.wanted;rw[hg]
  rw[hwant,if_pos rfl];refine .inl (Oper.wp_mono ?_ (JE hΓ hgl F hGP (show c.m<=nidOf ops base i by unfold nidOf;omega) (hfr i o (mA _) ho) (by rw[hlen];exact yZ ho) h));rintro a' w' ⟨v',st',R',G',V,h1,rfl,h2,h3,h4,h5,h6⟩;refine ih (i+1) f (B.setIfInBounds i true) ⟨putO o.dst v' st'.s,st'.h⟩ R' G' _ w' (by omega) (by omega) (by simpa using hsz) ?_ (by omega) (h2.put hdst h3) (hst R R' h6 hGP) (h5.trans hlen) ?_ h1
  ·intro j hj;by_cases hji:j=i
   ·subst hji;rw[decide_eq_true (by omega)];simp[show j<B.size by omega]
   ·have e:=Z j hj;have:(B.setIfInBounds i true).getD j false=B.getD j false:=by simp[Array.getElem?_setIfInBounds_ne (fun h=>hji h.symm)]
    rw[this,e,decide_eq_decide];omega
  ·intro j oj hj hoj x hx1 hx2;have:=js (base:=base) ho hoj (by omega);exact h4 x (by omega) (hfr j oj (by omega) hoj x hx1 hx2)
structure Fl(L:Nat)(ops:List Oper)(o:Oper)(t d:Nat):Prop where
 op:o.op=.move (.tmp t)
 guard:o.guard=none
 dst:o.dst=some d
 src:∀j,Vc.wrFrom ops 0 t=some j->j<L
theorem znc{L:Nat}{ops:List Oper}{o:Oper}(h:zjb L ops o=true):∃t d,Fl L ops o t d:=by
 unfold zjb at h;split at h
 ·rename_i t d I y B;refine⟨t,d,I,y,B,fun j H=>?_⟩;rw[H]at h;have y:j+1<=L:=by simpa[Nat.blt]using h
  omega
 ·cases h
theorem ztU{nid t:Nat}{st:St}:Loc E nid (.move (.tmp t)) st (get st.s t) []:=by refine⟨fun _ x j=>(by cases j),fun _ _=>rfl,fun st' y _ _ T k=>?_,fun h=>(by cases h)⟩;have e:get st'.s t=get st.s t:=y (.tmp t) (by simp[Op.operands]);show k (get st'.s t) st'=_;rw[e];rfl
theorem zfx{L base i t d:Nat}{o:Oper}{st st':St}(ho:all[i]? =some o)(j:Fl L all o t d)(h:StepS E all base i st st'):st'=⟨put d (get st.s t) st.s,st.h⟩:=by
 obtain⟨o2,v,u,H,rfl,h⟩:=h;rw[ho]at H;cases H;rw[j.dst];rcases h with⟨_,h⟩|⟨y,_⟩
 ·rw[j.op]at h;have e:=h.eff (AV×St) (fun v s=>some (v,s));have I:opK E true (nidOf all base i) (.move (.tmp t)) st (fun v s=>some (v,s))=some (get st.s t,st):=rfl;rw[I]at e;simp only[Option.some.injEq,Prod.mk.injEq]at e;obtain⟨O,J⟩:=e;have B:=congrArg St.h J;simp only at B;rw[<-O,<-B];rfl
 ·unfold zC at y;rw[j.guard]at y;cases y
theorem znb{L base i t d:Nat}{o:Oper}{st:St}(ho:all[i]? =some o)(j:Fl L all o t d):StepS E all base i st ⟨put d (get st.s t) st.s,st.h⟩:=by refine⟨o,get st.s t,[],ho,by rw[j.dst];rfl,.inl ⟨by unfold zC;rw[j.guard],?_⟩⟩;rw[j.op];exact ztU
theorem J3(D:List Nat)(st:St)(t:Nat):get (scrub D st).s t=(match D with
  |[]=>get st.s t
  |D=>jU D (get st.s t)):=by
 cases D with
 |nil=>rfl
 |cons a r=>exact YL
theorem zg7{L base:Nat}{v:AV}{D:List Nat}{hh:Heap}{dst:Option Nat}:∀{l:List Nat}{s y:St},(∀i∈l,∃o t d,all[i]? =some o/\Fl L all o t d/\dst≠some d/\dst≠some t)->RunS E all base l s y->
  RunS E all base l ⟨putO dst v (scrub D s).s,hh⟩ ⟨putO dst v (scrub D y).s,hh⟩
 |[],s,y,_,h=>by
  refine⟨fun t=>?_,rfl⟩;show get (putO dst v (scrub D s).s) t=get (putO dst v (scrub D y).s) t;have e:get (scrub D s).s t=get (scrub D y).s t:=by rw[J3,J3,h.1 t]
  cases dst with
  |none=>exact e
  |some d=>show get (put d v _) t=get (put d v _) t;rw[jf,jf,e]
 |i::l,s,y,hl,⟨s1,h1,h2⟩=>by
  obtain⟨o,t,d,ho,I,Z,n2⟩:=hl i mV;have J:=zfx ho I h1;subst J;have U:=zg7 (v:=v) (D:=D) (hh:=hh) (dst:=dst) (fun j O=>hl j (mU _ O)) h2;refine⟨_,znb ho I,U.eqv ⟨fun x=>?_,rfl⟩⟩;show get (putO dst v (scrub D ⟨put d (get s.s t) s.s,s.h⟩).s) x=get (put d (get (putO dst v (scrub D s).s) t) (putO dst v (scrub D s).s)) x;rw[jf,jA n2];by_cases H:dst=some x
  ·subst H;have B:¬d=x:=fun e=>Z (by rw[e])
   rw[if_neg B];show get (put x v _) x=get (put x v _) x;rw[jf,jf,if_pos rfl,if_pos rfl]
  ·rw[jA H,jA H,J3,J3,J3];simp only[jf];by_cases B:d=x
   ·rw[if_pos B,if_pos B]
   ·rw[if_neg B,if_neg B]
def remL(L:Nat)(y:Array Bool):List Nat:=(List.range L).filter fun j=>!y.getD j false
structure At(E:Env)(GP:Ro->Prop)(c:Base)(ops:List Oper)(L p0 base:Nat)(listed:Array Bool)(s:St)(R:Ro)(G:List Res)(a:Act)(w:World):Prop where
 sz:listed.size=ops.length
 tl:∀j,L<=j->j<ops.length->listed.getD j false=decide (j<p0)
 cl:∀i,listed.getD i false=true->∀o,ops[i]? =some o->∀e∈edgesOf o,listed.getD e false=true
 fit:Fit c E.n R G s a w
 gp:GP R
 len:s.h.length=base+rsvAll ops
 free:∀i o,ops[i]? =some o->listed.getD i false=false->FreeR s.h (nidOf ops base i) (rsv o)
theorem zBi(hΓ:∀C∈E.Γ,SoundC E.P GP C)(hgl:∀R,GP R->GlobOK E.gl R)(hst:Stays GP){ops:List Oper}{T:Type}{r:T}{k:St->Option T}{Q:Exit->Act->World->Prop}{L base p0:Nat}(hS:StatOk E.n L ops)(hcm:c.m<=base)
  (hLlt:L<ops.length) (hp0:L<=p0) (hp1:p0<=L+1) (hT:∀i o,L<=i->ops[i]? =some o->o.guard=none/\(L<i->∀j,j<i->Anc ops i j))
  (hK:∀st' R' G' a' w',k st'=some r->Fit c E.n R' G' st' a' w'->GP R'->Q .normal a' w') {stn:St} (hk:jN E false ops (ops.drop p0) (nidOf ops base p0) stn k=some r)
  (hP:∀(y:Array Bool),(∀j,L<=j->j<ops.length->y.getD j false=decide (j<p0))->(∀i,y.getD i false=true->∀o,ops[i]? =some o->∀e∈edgesOf o,y.getD e false=true)->
   ∀i j oi oj,i<L->j<i->ops[i]? =some oi->ops[j]? =some oj->y.getD i false=false->y.getD j false=false->¬Anc ops i j->QC (fpW E ops stn (nidOf ops base j) oj) (fpW E ops stn (nidOf ops base i) oi)=true)
  (hsw:p0=L->∀(B:Nat)(y:Array Bool)(s:St)(R:Ro)(G:List Res)(a:Act)(w:World)(o:Oper),At E GP c ops L p0 base y s R G a w->remL L y≠[]->(remL L y).length+(ops.length-(L+1))<=B->ops[L]? =some o->
   (∀e∈edgesOf o,y.getD e false=true)->(∀j,Anc ops L j->y.getD j false=true)->RunS E ops base (remL L y) s stn->wpOp E.P ops.toArray Q L (wpAny E.P .any ops.toArray Q B (y.setIfInBounds L true)) a w):
  ∀(B:Nat)(y:Array Bool)(s:St)(R:Ro)(G:List Res)(a:Act)(w:World),At E GP c ops L p0 base y s R G a w->(remL L y).length+(ops.length-p0)<=B->
   RunS E ops base (remL L y) s stn->wpAny E.P .any ops.toArray Q B y a w:=by
 have hA:∀(j k:Nat)(oj ok:Oper)(d:Nat),ops[j]? =some oj->ops[k]? =some ok->j<=k->k<L->ok.dst=some d->d∉oj.looksAt ops.toArray:=by
  intro j k oj ok d H hk hjk hkM hd ht;rcases hS.look j oj d k H ht (hS.lt k ok d hk hd).2 with h|h
  ·have:=h.lt hS.edge;omega
  ·omega
 have hE:∀(j k:Nat)(oj ok:Oper)(d:Nat),ops[j]? =some oj->ops[k]? =some ok->j≠k->oj.dst=some d->ok.dst≠some d:=by intro j k oj ok d H hk hjk hd hd';have h1:=(hS.lt j oj d H hd).2;have h2:=(hS.lt k ok d hk hd').2;rw[h1]at h2;exact hjk (Option.some.inj h2)
 intro B;have hnot:∀(y:Array Bool),y.size=ops.length->(∃j,j<ops.length/\y.getD j false=false)->Region.ready .any ops.toArray y=[]->False:=by
  intro y hsz ⟨j0,hj0,hjf⟩ hr;have hall:∀j,j<ops.length->y.getD j false=true:=by
   intro j;induction j using Nat.strongRecOn with
   |_ j ih=>
    intro H;cases hb:y.getD j false with
    |true=>rfl
    |false=>
     exfalso;have:j∈Region.ready .any ops.toArray y:=by
      rw[mem_ready];refine⟨?_,ops[j],by simp[H],fun e he hbind=>?_⟩
      ·have Z:j<y.size:=by omega
       simp[Z]at hb⊢;exact hb
      ·have Z:=hS.edge j ops[j] (by simp[H]) e.on (by
        unfold edgesOf;rw[uAn];exact⟨e,by simpa using he,by simp[hbind]⟩)
       exact ih e.on Z (by omega)
     rw[hr]at this;cases this
  rw[hall j0 hj0]at hjf;cases hjf
 have tail:∀(B:Nat)(y:Array Bool)(s:St)(R:Ro)(G:List Res)(a:Act)(w:World),At E GP c ops L p0 base y s R G a w->(ops.length-p0)<=B->
   remL L y=[]->RunS E ops base (remL L y) s stn->wpAny E.P .any ops.toArray Q B y a w:=by
  intro B y s R G a w I hfu J hR;rw[J]at hR;have F':Fit c E.n R G stn a w:=⟨by rw[<-hR.2];exact I.fit.wrel,by rw[<-hR.2];exact I.fit.since,fun t=>by rw[<-hR.1 t,<-hR.2];exact I.fit.slots t,I.fit.defers,I.fit.size⟩
  refine zqq hΓ hgl hst hS hcm hT hK (ops.length-p0) p0 B y stn R G a w (by omega) hp0 I.sz ?_ hfu F' I.gp (by rw[<-hR.2];exact I.len) (fun i o hi ho=>by have Z:=(kX.1 ho).1;rw[<-hR.2];exact I.free i o ho (by rw[I.tl i (by omega) Z];exact decide_eq_false (by omega))) hk
  ·intro j H;by_cases hjL:j<L
   ·rw[decide_eq_true (by omega)];have:=List.filter_eq_nil_iff.1 J j (by simpa using hjL);simpa using this
   ·exact I.tl j (by omega) H
 induction B with
 |zero=>
  intro y s R G a w I hfu hR;have hz:(remL L y).length=0:=by omega
  exact tail 0 y s R G a w I (by omega) (mW.1 hz) hR
 |succ B ih=>
  intro y s R G a w I hfu hR;by_cases J:remL L y=[]
  ·exact tail (B+1) y s R G a w I (by omega) J hR
  refine⟨fun hr=>(hnot y I.sz ?_ hr).elim,fun i hi=>?_⟩
  ·obtain⟨j,H⟩:=List.exists_mem_of_ne_nil _ J;have h1:=nB.1 H;have h2:j<L:=by simpa using h1.1
   exact⟨j,by omega,by simpa using h1.2⟩
  rw[mem_ready]at hi;obtain⟨hun,o,ho,hall⟩:=hi;have ho':ops[i]? =some o:=by simpa using ho
  have hilt:i<ops.length:=(kX.1 ho').1;have hil:i<y.size:=by rw[I.sz];exact hilt
  have hSi:y.getD i false=false:=by simp[hil]at hun⊢;exact hun
  have hdir:∀e∈edgesOf o,y.getD e false=true:=by
   intro e he;unfold edgesOf at he;rw[uAn]at he;obtain⟨x,hx,hxe⟩:=he;split at hxe
   ·rename_i hb;cases hxe;exact hall x (by simpa using hx) hb
   ·cases hxe
  have hanc:∀k j,Anc ops k j->y.getD k false=true->y.getD j false=true:=by
   intro k j h;induction h with
   |one h he=>intro hk;exact I.cl _ hk _ h _ he
   |more h he _ ih=>intro hk;exact ih (I.cl _ hk _ h _ he)
  have hanci:∀j,Anc ops i j->y.getD j false=true:=by
   intro j h;cases h with
   |one h he=>rw[ho']at h;cases h;exact hdir _ he
   |more h he h'=>rw[ho']at h;cases h;exact hanc _ _ h' (hdir _ he)
  by_cases hiL:i=L
  ·subst hiL;have hp:p0=i:=by have:=I.tl i (mA _) hilt;rw[hSi]at this;have:=of_decide_eq_false this.symm;omega
   exact hsw hp B y s R G a w o I J (by rw[hp]at hfu;omega) ho' hdir hanci hR
  have hset:∀j,(y.setIfInBounds i true).getD j false=(y.getD j false||Nat.beq j i):=by
   intro j;by_cases hji:j=i
   ·subst hji;simp[hil]
   ·have hne:¬i=j:=fun h=>hji h.symm
    have hb:Nat.beq j i=false:=by
     cases hb:Nat.beq j i with
     |false=>rfl
     |true=>exact absurd (kV hb) hji
    simp[hb,Array.getElem?_setIfInBounds_ne hne]
  have hiL':i<L:=by
   rcases Nat.lt_or_ge i L with h|h
   ·exact h
   ·exfalso;refine J (List.filter_eq_nil_iff.2 fun j H=>?_);have hjL:j<L:=by simpa using H
    simp[hanci j ((hT i o h ho').2 (by omega) j (by omega))]
  obtain⟨l1,l2,g1,g2,g3⟩:=qt (p:=fun j=>!y.getD j false) (q:=fun j=>!(y.setIfInBounds i true).getD j false) (l:=List.range L) uAK (by simpa using hiL') (by simp only[hSi];rfl)
   (fun j=>by rw[hset];cases y.getD j false<;>cases Nat.beq j i<;>rfl)
  have O:remL L y=l1++i::l2:=g1;have hrem':remL L (y.setIfInBounds i true)=l1++l2:=g2;have hunl:∀j∈l1++i::l2,y.getD j false=false:=by intro j H;rw[<-O]at H;have:=(nB.1 H).2;simpa using this
  rw[O]at hR;obtain⟨s',hstep,hR'⟩:=zAk ho' hA hE l1 s (fun k hk=>by rw[<-O]at hk;have:=(nB.1 hk).1;simpa using this) (by rw[<-O];exact List.Pairwise.filter _ uAK)
   (fun k hk ok d hok hd ht=>by
    rcases hS.look i o d k ho' ht (hS.lt k ok d hok hd).2 with h|h
    ·have:=hanci k h;rw[hunl k hk]at this;cases this
    ·rw[<-O]at hk;have:=(nB.1 hk).1;have:k<L:=by simpa using this
     omega)
   (fun j H oj U=>hP y I.tl I.cl i j o oj hiL' (g3 j H) ho' U hSi (hunl j (nN _ H)) (fun hanc=>by have:=hanci j hanc;rw[hunl j (nN _ H)]at this;cases this)) (fun hb hr x hx=>I.free i o ho' hSi x (zd8 hb hr x hx).1 (zd8 hb hr x hx).2) hR
  obtain⟨o2,v,u,e1,e2,e3⟩:=hstep;rw[ho']at e1;cases e1;have next:∀(R':Ro)(G':List Res)(a':Act)(w':World),Fit c E.n R' G' s' a' w'->GP R'->Jm (nidOf ops base i) (rsv o) s.h s'.h->s'.h.length=s.h.length->
    wpAny E.P .any ops.toArray Q B (y.setIfInBounds i true) a' w':=by
   intro R' G' a' w' F' hGP' hno hlen';refine ih (y.setIfInBounds i true) s' R' G' a' w' ⟨by simpa using I.sz,fun j H hj2=>?_,?_,F',hGP',by rw[hlen'];exact I.len,?_⟩ (by rw[hrem'];rw[O]at hfu;simp at hfu⊢;omega) (by rw[hrem'];exact hR')
   ·rw[hset,I.tl j H hj2];cases hb:Nat.beq j i with
    |false=>rw[Bool.or_false]
    |true=>exact absurd (kV hb) (by omega)
   ·intro j H oj U e he;rw[hset]at H⊢;simp only[nW]at H⊢;rcases H with H|H
    ·exact .inl (I.cl j H oj U e he)
    ·have:=kV H;subst this;rw[ho']at U;cases U;exact .inl (hdir e he)
   ·intro j oj U H x hx1 hx2;rw[hset]at H;simp only[Bool.or_eq_false_iff]at H;have hne:j≠i:=fun e=>by rw[e]at H;simp at H
    refine hno x (fun hh=>?_) (I.free j oj U H.1 x hx1 hx2);rcases Nat.lt_or_gt_of_ne hne with Z|Z
    ·have:=js (base:=base) U ho' Z;omega
    ·have:=js (base:=base) ho' U Z;omega
  unfold wpOp;have hoA:ops.toArray[i]? =some o:=by simpa using ho'
  simp only[hoA];have hdst:zae E.n o.dst=true:=by
   cases hd:o.dst with
   |none=>rfl
   |some d=>exact (hS.lt i o d ho' hd).1
  rcases e3 with⟨hw,hloc⟩|⟨hw,rfl,rfl⟩
  ·rw[jJ I.fit hS hw,if_pos rfl];have heff:=hloc.eff (AV×St) (fun v s=>some (v,s));refine .inl (Oper.wp_mono ?_ (JE hΓ hgl I.fit I.gp (show c.m<=nidOf ops base i by unfold nidOf;omega) (I.free i o ho' hSi) (by rw[I.len];exact yZ ho') heff));rintro a' w' ⟨v',st',R',G',V,h1,rfl,h2,h3,h4,h5,h6⟩;simp only[Option.some.injEq,Prod.mk.injEq]at h1;obtain⟨rfl,rfl⟩:=h1;have F2:=h2.put hdst h3;exact next R' G' _ w' (by rw[e2];exact F2) (hst R R' h6 I.gp) (by rw[e2];exact h4) (by rw[e2];exact h5)
  ·rw[jJ I.fit hS hw];simp only[mR,if_false];have F2:=I.fit.put (v:=.tup []) (V:=undef) hdst ⟨[],rfl,rfl⟩;exact next R G _ w (by rw[e2];exact F2) I.gp (by rw[e2];exact fun _ _ h=>h) (by rw[e2];rfl)
theorem zbQ(hm:E.P.follows .mixedOrders=true)(hΓ:∀C∈E.Γ,SoundC E.P GP C)(hgl:∀R,GP R->GlobOK E.gl R)(hst:Stays GP){ops:List Oper}{T:Type}{r:T}{k:St->Option T}{Q:Exit->Act->World->Prop}{st:St}{R:Ro}{G:List Res}
  {a:Act} {w:World} (F:Fit c E.n R G st a w) (hGP:GP R) {m L:Nat} (hL:L=ops.length-m) (U:L<ops.length) (hT:∀i o,L<=i->ops[i]? =some o->o.guard=none/\(L<i->∀j,j<i->Anc ops i j))
  (hF:∀o,ops[L]? =some o->∀j,j<L->Anc ops L j\/(qk o.op=true/\∃Z t d,ops[j]? =some Z/\Fl L ops Z t d))
  {id:Nat} {alt:Option T} (halt:alt=some r->(Code.region id ops.toArray true).wp E.P Q a w) (h:qS E m ops st alt k=some r) (hK:∀st' R' G' a' w',k st'=some r->Fit c E.n R' G' st' a' w'->GP R'->Q .normal a' w'):
  (Code.region id ops.toArray true).wp E.P Q a w:=by
 unfold qS at h;split at h
 ·rename_i hstat;have hS:=zmG hstat;rw[<-hL]at h hS;obtain⟨G0,F0,hfree,hlen⟩:=F.wide (rsvAll ops);have hrun:=znh (E:=E) (all:=ops) (base:=st.h.length) (ops.take L) 0 ⟨st.s,wide st.h (rsvAll ops)⟩ ⟨ops.drop L,by rw[uAe];exact (mO L ops).symm⟩ (by simpa[nidOf,rsvAll]using h);rw[mH,uAR (by omega)]at hrun;obtain⟨stn,hk,hrun⟩:=hrun;split at hk
  ·rename_i hpairs;have hcm:c.m<=st.h.length:=F.since.many;refine wp_region_any hm ?_;obtain⟨O,B⟩:∃o,ops[L]? =some o:=⟨ops[L],kZ U⟩
   have hE:∀(j k:Nat)(Z ok:Oper)(d:Nat),ops[j]? =some Z->ops[k]? =some ok->j≠k->Z.dst=some d->ok.dst≠some d:=by intro j k Z ok d H hk hjk hd hd';have h1:=(hS.lt j Z d H hd).2;have h2:=(hS.lt k ok d hk hd').2;rw[h1]at h2;exact hjk (Option.some.inj h2)
   refine zBi (p0:=L) hΓ hgl hst hS hcm U (mA _) (by omega) hT hK hk (fun y _ _ i j oi Z hi hji hoi hoj _ _ hna=>zeX hpairs hoi hoj hji hna) ?_ ops.toArray.size _ ⟨st.s,wide st.h (rsvAll ops)⟩ R G0 a _
    ⟨by simp,fun j H hj2=>?_,?_,F0.keep (Keeps.drawn w _),hGP,hlen,fun i o hi _ x hx1 hx2=>hfree x (by unfold nidOf at hx1;omega)⟩ ?_ ?_
   ·
     intro _ fuel y s R G a w o I hne hfu ho hdir hanc hR;rw[B]at ho;cases ho;have hfl:∀j∈remL L y,∃Z t d,ops[j]? =some Z/\Fl L ops Z t d/\O.dst≠some d/\O.dst≠some t:=by
      intro j H;have h1:=nB.1 H;have h2:j<L:=by simpa using h1.1
      have h3:y.getD j false=false:=by simpa using h1.2
      rcases hF O B j h2 with h|⟨_,Z,t,d,e1,e2⟩
      ·rw[hanc j h]at h3;cases h3
      ·refine⟨Z,t,d,e1,e2,fun hd=>hE L j O Z d B e1 (by omega) hd e2.dst,fun ht=>?_⟩;have:=e2.src L (hS.lt L O t B ht).2;omega
     have happ:(remL L y)≠[]->qk O.op=true:=by
      intro hne;obtain⟨j,H⟩:=List.exists_mem_of_ne_nil _ hne;have h1:=nB.1 H;have h2:j<L:=by simpa using h1.1
      have h3:y.getD j false=false:=by simpa using h1.2
      rcases hF O B j h2 with h|⟨h,_⟩
      ·rw[hanc j h]at h3;cases h3
      ·exact h
     have hdl:ops.drop L=O::ops.drop (L+1):=by rw[nH U];congr 1;exact Option.some.inj ((kZ U).symm.trans B)
     have hnid:nidOf ops st.h.length L+rsv O=nidOf ops st.h.length (L+1):=by unfold nidOf;have:=yp B;omega
     have hdst:zae E.n O.dst=true:=by
      cases hd:O.dst with
      |none=>rfl
      |some d=>exact (hS.lt L O d B hd).1
     have hg:=(hT L O (mA _) B).1;have hk2:=hk;rw[hdl]at hk2;simp only[jN,hdst,hg]at hk2;have hil:L<y.size:=by rw[I.sz];exact U
     have hLf:y.getD L false=false:=by rw[I.tl L (mA _) U];exact decide_eq_false (by omega)
     have hset:∀j,(y.setIfInBounds L true).getD j false=(y.getD j false||Nat.beq j L):=by
      intro j;by_cases hji:j=L
      ·subst hji;simp[hil]
      ·have hne:¬L=j:=fun h=>hji h.symm
       have hb:Nat.beq j L=false:=by
        cases hb:Nat.beq j L with
        |false=>rfl
        |true=>exact absurd (kV hb) hji
       simp[hb,Array.getElem?_setIfInBounds_ne hne]
     have hremS:remL L (y.setIfInBounds L true)=remL L y:=by
      unfold remL;refine List.filter_congr fun j H=>?_
      have H:j<L:=by simpa using H
      rw[hset];cases hb:Nat.beq j L with
      |false=>rw[Bool.or_false]
      |true=>exact absurd (kV hb) (by omega)
     have hlook:∀x∈O.op.operands,opnd E.gl s.s x=opnd E.gl stn.s x:=by
      refine jV (all:=ops) (fun t ht=>(hR.slots t fun k hk ok hok hd=>?_).symm);have h1:=nB.1 hk;have h2:k<L:=by simpa using h1.1
      have h3:y.getD k false=false:=by simpa using h1.2
      rcases hS.look L O t k B ht (hS.lt k ok t hok hd).2 with h|h
      ·rw[hanc k h]at h3;cases h3
      ·omega
     have hheap:∀(l:List Nat)(s stn:St),(∀j∈l,∃Z t d,ops[j]? =some Z/\Fl L ops Z t d/\O.dst≠some d/\O.dst≠some t)->RunS E ops st.h.length l s stn->stn.h=s.h:=by
      intro l;induction l with
      |nil=>intro s stn _ h;exact h.2.symm
      |cons j l ih=>intro s stn hl ⟨s1,h1,h2⟩;obtain⟨Z,t,d,e1,e2,_⟩:=hl j mV;have e3:=zfx e1 e2 h1;have e4:=ih s1 stn (fun j H=>hl j (mU _ H)) h2;rw[e3]at e4;exact e4
     have eff:∃v D hh,jN E false ops (ops.drop (L+1)) (nidOf ops st.h.length (L+1)) ⟨putO O.dst v (scrub D stn).s,hh⟩ k=some r/\opK E false (nidOf ops st.h.length L) O.op s (fun v st'=>some (v,st'))=some (v,⟨(scrub D s).s,hh⟩)/\
       RunS E ops st.h.length (remL L y) ⟨putO O.dst v (scrub D s).s,hh⟩ ⟨putO O.dst v (scrub D stn).s,hh⟩:=by
      obtain⟨v,D,hh,h1,h2⟩:=zfZ (happ hne) hk2;refine⟨v,D,hh,?_,h2 s (hheap _ _ _ hfl hR).symm hlook _ _,zg7 hfl hR⟩;rw[<-hnid];exact h1
     obtain⟨v,D,hh,hk3,hop,hR3⟩:=eff;unfold wpOp;have hoA:ops.toArray[L]? =some O:=by simpa using B
     simp only[hoA];have hwant:Region.wanted O (yielded ops.toArray a.tmps)=true:=by unfold Region.wanted;rw[hg]
     rw[hwant,if_pos rfl];refine .inl (Oper.wp_mono ?_ (JE hΓ hgl I.fit I.gp (show c.m<=nidOf ops st.h.length L by unfold nidOf;omega) (I.free L O B hLf) (by rw[I.len];exact yZ B) hop));rintro a' w' ⟨v',st',R',G',V,h1,rfl,h2,h3,h4,h5,h6⟩;simp only[Option.some.injEq,Prod.mk.injEq]at h1;rw[h1.2]at h2 h4 h5;rw[h1.1,h1.2]at h3;refine zBi (p0:=L+1) hΓ hgl hst hS hcm U (by omega) (mA _) hT hK hk3 (fun J hl1 hl2 i j oi Z hi hji hoi hoj hui huj _=>?_) (fun h=>by omega) fuel (y.setIfInBounds L true) ⟨putO O.dst v (scrub D s).s,hh⟩ R' G' _ w'
      ⟨by simpa using I.sz,fun j H hj2=>?_,fun j H Z hoj e he=>?_,h2.put hdst h3,hst R R' h6 I.gp,h5.trans I.len,fun j Z hoj H x hx1 hx2=>?_⟩ (by rw[hremS];exact hfu) (by rw[hremS];exact hR3)
     ·
       have hflo:∀q oq,q<L->ops[q]? =some oq->J.getD q false=false->∃t d,Fl L ops oq t d:=by
        intro q oq hq hoq huq;rcases hF O B q hq with h|⟨_,Z,t,d,e1,e2⟩
        ·exfalso;have hLl:J.getD L false=true:=by rw[hl1 L (mA _) U];exact decide_eq_true (by omega)
         have hcl2:∀k j,Anc ops k j->J.getD k false=true->J.getD j false=true:=by
          intro k j h;induction h with
          |one h he=>intro hk;exact hl2 _ hk _ h _ he
          |more h he _ ih=>intro hk;exact ih (hl2 _ hk _ h _ he)
         rw[hcl2 L q h hLl]at huq;cases huq
        ·rw[hoq]at e1;cases e1;exact⟨t,d,e2⟩
       obtain⟨t1,d1,f1⟩:=hflo i oi hi hoi hui;obtain⟨t2,d2,f2⟩:=hflo j Z (by omega) hoj huj;have hfp:∀{o:Oper}{t d n:Nat}{S:St},Fl L ops o t d->fpW E ops S n o=⟨[],[],false⟩:=by intro o t d n S hf;rw[Ya (by unfold zC;rw[hf.guard]),hf.op];rfl
       rw[hfp f1,hfp f2];rfl
     ·rw[hset,I.tl j H hj2];by_cases hjL:j=L
      ·subst hjL;rw[Nat.beq_refl,Bool.or_true,decide_eq_true (by omega)]
      ·have hb:Nat.beq j L=false:=by
        cases hb:Nat.beq j L with
        |false=>rfl
        |true=>exact absurd (kV hb) hjL
       rw[hb,Bool.or_false,decide_eq_decide];omega
     ·rw[hset]at H⊢;simp only[nW]at H⊢;rcases H with H|H
      ·exact .inl (I.cl j H Z hoj e he)
      ·have:=kV H;subst this;rw[B]at hoj;cases hoj;exact .inl (hdir e he)
     ·rw[hset]at H;simp only[Bool.or_eq_false_iff]at H;have hne:j≠L:=fun e=>by rw[e]at H;simp at H
      refine h4 x (fun hh=>?_) (I.free j Z hoj H.1 x hx1 hx2);rcases Nat.lt_or_gt_of_ne hne with hlt|hlt
      ·have:=js (base:=st.h.length) hoj B hlt;omega
      ·have:=js (base:=st.h.length) B hoj hlt;omega
   ·simp[hj2];omega
   ·intro i hi;exfalso;by_cases hlt:i<ops.length
    ·simp[hlt]at hi
    ·simp[hlt]at hi
   ·have h1:=List.length_filter_le (fun j=>!(Array.replicate ops.toArray.size false).getD j false) (List.range L);have h2:(List.range L).length+(ops.length-L)<=ops.toArray.size:=by simp;omega
    exact uAG (Nat.add_le_add_right h1 _) h2
   ·have:remL L (Array.replicate ops.toArray.size false)=List.range' 0 L:=by
     show(List.range L).filter _=_;rw[List.filter_eq_self.2,List.range_eq_range'];intro j H;have:j<L:=by simpa using H
     simp[show j<ops.length by omega]
    rw[this];exact hrun
  ·exact halt hk
 ·exact halt h
theorem zfA(hm:E.P.follows .mixedOrders=true)(hΓ:∀C∈E.Γ,SoundC E.P GP C)(I:∀R,GP R->GlobOK E.gl R)(H:Stays GP){ops:List Oper}{T:Type}{r:T}{k:St->Option T}{Q:Exit->Act->World->Prop}{st:St}{R:Ro}{G:List Res}
  {a:Act} {w:World} (F:Fit c E.n R G st a w) (O:GP R) {m:Nat} (hm1:1<=m) (ht:Kq m ops=true) {id:Nat} {B:Option T} (y:B=some r->(Code.region id ops.toArray true).wp E.P Q a w) (h:qS E m ops st B k=some r) (hK:∀st' R' G' Z w',k st'=some r->Fit c E.n R' G' st' Z w'->GP R'->Q .normal Z w'):
  (Code.region id ops.toArray true).wp E.P Q a w:=by
 obtain⟨U,J⟩:=zpz ht;exact zbQ hm hΓ I H F O rfl (by omega) (fun i o hi ho=>⟨(J i o hi ho).1,fun _=>(J i o hi ho).2⟩) (fun o ho j hj=>.inl ((J _ o (mA _) ho).2 j hj)) y h hK
theorem zq1{L:Nat}{ops:List Oper}(h:zj7 L ops=true):L<ops.length/\(∀i o,L<=i->ops[i]? =some o->o.guard=none/\(L<i->∀j,j<i->Anc ops i j))/\
  ∀o,ops[L]? =some o->∀j,j<L->Anc ops L j\/(qk o.op=true/\∃O t d,ops[j]? =some O/\Fl L ops O t d):=by
 unfold zj7 at h;simp only[kY]at h;obtain⟨J,h2⟩:=h;split at J
 ·rename_i oL lL B Z;simp only[kY]at J;obtain⟨ha,hgL,H⟩:=J;have hlt:=(kX.1 B).1;have I:∀{o:Oper},(match o.guard with
   |none=>true
   |some _=>false)=true->o.guard=none:=by
   intro o h;split at h
   ·assumption
   ·cases h
  refine⟨hlt,fun i o hi ho=>?_,fun o ho j hj=>?_⟩
  ·by_cases U:i=L
   ·subst U;rw[B]at ho;cases ho;exact⟨I hgL,fun h=>by omega⟩
   ·have hil:=(kX.1 ho).1;have:=mK.1 h2 (i-(L+1)) (by rw[List.mem_range];omega);rw[show L+1+(i-(L+1))=i by omega,ho]at this;split at this
    ·rename_i o' l h3 hB;cases h3;rw[kY]at this;refine⟨I this.1,fun _ j hj=>?_⟩;have y:=mK.1 this.2 j (by simpa using hj);refine zU ?_;rw[hB];exact zA.1 y
    ·cases this
  ·rw[B]at ho;cases ho;have y:=mK.1 H j (by simpa using hj);rw[nW]at y;rcases y with y|y
   ·left;refine zU ?_;rw[Z];exact zA.1 y
   ·right;split at y
    ·rename_i O hoj;obtain⟨t,d,hf⟩:=znc y;exact⟨ha,O,t,d,hoj,hf⟩
    ·cases y
 ·cases J
theorem znl(hm:E.P.follows .mixedOrders=true)(hΓ:∀C∈E.Γ,SoundC E.P GP C)(B:∀R,GP R->GlobOK E.gl R)(H:Stays GP){ops:List Oper}{T:Type}{r:T}{k:St->Option T}{Q:Exit->Act->World->Prop}{st:St}{R:Ro}{G:List Res}
  {a:Act} {w:World} (F:Fit c E.n R G st a w) (I:GP R) {L:Nat} (U:zj7 L ops=true) {id:Nat} {y:Option T} (j:y=some r->(Code.region id ops.toArray true).wp E.P Q a w) (h:qS E (ops.length-L) ops st y k=some r) (Z:∀st' R' G' O w',k st'=some r->Fit c E.n R' G' st' O w'->GP R'->Q .normal O w'):
  (Code.region id ops.toArray true).wp E.P Q a w:=by
 obtain⟨J,hT,hF⟩:=zq1 U;exact zbQ hm hΓ B H F I (L:=L) (by omega) J hT hF j h Z
theorem KO(U:E.P.follows .mixedOrders=true)(O:∀C∈E.Γ,SoundC E.P GP C)(y:∀R,GP R->GlobOK E.gl R)(B:Stays GP){ops:List Oper}{T:Type}{r:T}{k:St->Option T}{Q:Exit->Act->World->Prop}{st:St}{R:Ro}{G:List Res}
  {a:Act} {w:World} (F:Fit c E.n R G st a w) (H:GP R) (h:Jx E ops st k=some r) (J:∀st' R' G' Z w',k st'=some r->Fit c E.n R' G' st' Z w'->GP R'->Q .normal Z w') {id:Nat}:
  (Code.region id ops.toArray true).wp E.P Q a w:=by
 have j:j9 E ops st k=some r->(Code.region id ops.toArray true).wp E.P Q a w:=fun h=>znk U O y B F H h J
 unfold Jx at h;split at h
 ·rename_i I;exact znl U O y B F H I j h J
 ·split at h
  ·rename_i I;rw[kY]at I;exact zfA U O y B F H (by decide) I.1 j h J
  ·split at h
   ·rename_i I;rw[kY]at I;exact zfA U O y B F H (by decide) I.1 j h J
   ·split at h
    ·split at h
     ·exact j h
     ·exact zha U O y B F H (fun e=>by cases e) h J
    ·exact zha U O y B F H j h J
end
end Go.Am
