/-
  A part of the proof of the laws.
-/
import Derived.Test.YtannhfbidakffaaGreatDoorAm28
namespace Go.Am
open Go Go.RowKit Go.Vc
section
variable {E : Env} {all : List Oper} {base : Nat}
theorem zrN{T:Type}{k:St->Option T}{r:T}:∀(ops:List Oper)(i:Nat)(st:St),(∃tl,all.drop i=ops++tl)->j1 E true all ops (nidOf all base i) st k=some r->
  ∃B,k B=some r/\RunS E all base (List.range' i ops.length) st B:=by
 intro ops;induction ops with
 |nil=>intro i st _ h;exact⟨st,h,Eqv.refl _⟩
 |cons o I ih=>
  intro i st H h;obtain⟨tl,H⟩:=H;have hi:all[i]? =some o:=by have:=congrArg (·[0]?) H;simpa[List.getElem?_drop]using this
  have O:∃tl,all.drop (i+1)=I++tl:=⟨tl,by have:=congrArg (List.drop 1) H;simpa[List.drop_drop,Nat.add_comm]using this⟩
  have hnid:nidOf all base i+rsv o=nidOf all base (i+1):=by unfold nidOf;have:=yH hi;omega
  rw[mM,List.range'_succ];simp only[j1,hnid]at h;split at h
  ·cases h
  ·have go:∀(j:St),Eqv j st->zx all o st=some true->opK E true (nidOf all base i) o.op j (fun v st'=>j1 E true all I (nidOf all base (i+1)) ⟨putO o.dst v st'.s,st'.h⟩ k)=some r->
     ∃B,k B=some r/\RunS E all base (i::List.range' (i+1) I.length) st B:=by
    intro j S Y h0;obtain⟨v,u,h1,h2⟩:=WO h0;obtain⟨B,h5,h6⟩:=ih (i+1) _ O h1;have J:StepS E all base i j ⟨putO o.dst v j.s,jR j.h u⟩:=⟨o,v,u,hi,rfl,.inl ⟨(zu (fun t _=>S.1 t)).trans Y,h2⟩⟩
    obtain⟨Z,h7,h8⟩:=J.eqv S;exact⟨B,h5,Z,h7,h6.eqv h8⟩
   have no:∀(j:St),Eqv j st->zx all o st=some false->j1 E true all I (nidOf all base (i+1)) ⟨putO o.dst (.tup []) j.s,j.h⟩ k=some r->
     ∃B,k B=some r/\RunS E all base (i::List.range' (i+1) I.length) st B:=by
    intro j S Y h0;obtain⟨B,h5,h6⟩:=ih (i+1) _ O h0;have J:StepS E all base i j ⟨putO o.dst (.tup []) j.s,jR j.h []⟩:=⟨o,.tup [],[],hi,rfl,.inr ⟨(zu (fun t _=>S.1 t)).trans Y,rfl,rfl⟩⟩
    obtain⟨Z,h7,h8⟩:=J.eqv S;exact⟨B,h5,Z,h7,h6.eqv h8⟩
   split at h
   ·rename_i hg;exact go st (Eqv.refl _) (by unfold zx;rw[hg]) h
   ·rename_i g U hg;split at h
    ·rename_i t ht;split at h
     ·rename_i b hlt hb;have Y:zx all o st=some (b==U):=by unfold zx;simp only[hg,ht,hb]
      have S:Eqv ⟨put t (.bool b) st.s,st.h⟩ st:=by
       refine⟨fun x=>?_,rfl⟩;show get (put t (.bool b) st.s) x=get st.s x;rw[js];split
       ·rename_i e;subst e;exact hb.symm
       ·rfl
      cases b<;>cases U<;>simp only[cond_true,cond_false]at h
      ·exact go _ S Y h
      ·exact no _ S Y h
      ·exact no _ S Y h
      ·exact go _ S Y h
     ·rename_i hlt hb;exact no st (Eqv.refl _) (by unfold zx;simp only[hg,ht,hb]) h
     ·cases h
    ·cases h
theorem zus{m:Nat}{ops:List Oper}(h:za4 m ops=true):m<=ops.length/\∀i o,ops.length-m<=i->ops[i]? =some o->o.guard=none/\∀j,j<i->Anc ops i j:=by
 unfold za4 at h;simp only[mF]at h;obtain⟨B,J⟩:=h;have B:=mQ B;refine⟨B,fun i o hi ho=>?_⟩;have U:i<ops.length:=(mG.1 ho).1;have:=mT.1 J (i-(ops.length-m)) (by rw[List.mem_range];omega);rw[show ops.length-m+(i-(ops.length-m))=i by omega,ho]at this;split at this
 ·rename_i o' l I O;cases I;rw[mF]at this;refine⟨?_,fun j Y=>?_⟩
  ·have H:=this.1;split at H
   ·assumption
   ·cases H
  ·have S:=mT.1 this.2 j (by simpa using Y);refine zV ?_;rw[O];exact zG.1 S
 ·cases this
variable {GP : Ro -> Prop} {c : Base}
theorem zvv(hΓ:∀C∈E.Γ,SoundC E.P GP C)(hgl:∀R,GP R->GlobOK E.gl R)(hst:Stays GP){ops:List Oper}{T:Type}{r:T}{k:St->Option T}{Q:Exit->Act->World->Prop}{L base:Nat}(hS:StatOk E.n L ops)(hcm:c.m<=base)
  (hT:∀i o,L<=i->ops[i]? =some o->o.guard=none/\(L<i->∀j,j<i->Anc ops i j)) (hK:∀st' R' G' a' w',k st'=some r->Fit c E.n R' G' st' a' w'->GP R'->Q .normal a' w'):
  ∀(m p H:Nat)(B:Array Bool)(s:St)(R:Ro)(G:List Res)(a:Act)(w:World),p+m=ops.length->L<=p->B.size=ops.length->(∀j,j<ops.length->B.getD j false=decide (j<p))->m<=H->
   Fit c E.n R G s a w->GP R->s.h.length=base+rsvAll ops->(∀i o,p<=i->ops[i]? =some o->FreeR s.h (nidOf ops base i) (rsv o))->j1 E false ops (ops.drop p) (nidOf ops base p) s k=some r->wpAny E.P .any ops.toArray Q H B a w:=by
 intro m;induction m with
 |zero=>
  intro p H B s R G a w hp _ hsz U _ F Y _ _ h;rw[uAE oM]at h;have hQ:=hK _ R G a w h F Y;have hrdy:Region.ready .any ops.toArray B=[]:=by
   rcases hc:Region.ready .any ops.toArray B with _|⟨j,r⟩
   ·rfl
   ·exfalso;have hj:j∈Region.ready .any ops.toArray B:=by rw[hc];simp
    rw[mem_ready]at hj;obtain⟨S,o',ho',_⟩:=hj;have hjlt:j<ops.length:=(mG.1 (show ops[j]? =some o' by simpa using ho')).1;have:=U j hjlt;have hjl:j<B.size:=oM
    have hSj:B.getD j false=false:=by simp[hjl]at S⊢;exact S
    rw[this,decide_eq_true oM]at hSj;cases hSj
  cases H with
  |zero=>exact⟨hrdy,hQ⟩
  |succ H=>exact⟨fun _=>hQ,fun j hj=>by rw[hrdy]at hj;cases hj⟩
 |succ m ih=>
  intro p H B s R G a w hp hLp hsz U hfu F Y Z hfr h;obtain⟨f,rfl⟩:∃f,H=f+1:=⟨H-1,oM⟩
  have J:p<ops.length:=oM
  obtain⟨o,ho⟩:∃o,ops[p]? =some o:=⟨ops[p],mJ J⟩
  obtain⟨hg,hTp⟩:=hT p o hLp ho;have hdp:ops.drop p=o::ops.drop (p+1):=by rw[uAl J];congr 1;exact Option.some.inj ((mJ J).symm.trans ho)
  have hnid:nidOf ops base p+rsv o=nidOf ops base (p+1):=by unfold nidOf;have:=yH ho;omega
  have hlp:B.getD p false=false:=by rw[U p J];exact decide_eq_false oM
  have hdst:zcX E.n o.dst=true:=by
   cases hd:o.dst with
   |none=>rfl
   |some d=>exact (hS.lt p o d ho hd).1
  rw[hdp]at h;simp only[j1,hnid,hdst,hg]at h;have hpr:p∈Region.ready .any ops.toArray B:=by
   rw[mem_ready];refine⟨?_,o,by simpa using ho,fun e O hbind=>?_⟩
   ·have hlt:p<B.size:=oM
    simp[hlt]at hlp⊢;exact hlp
   ·have hlt:=hS.edge p o ho e.on (by
     unfold edgesOf;rw[uAs];exact⟨e,by simpa using O,by simp[hbind]⟩)
    rw[U e.on oM];exact decide_eq_true hlt
  refine⟨(fun hr=>by rw[hr]at hpr;cases hpr),fun i hi=>?_⟩;have hip:i=p:=by
   rw[mem_ready]at hi;obtain⟨S,oi,hoi,hall⟩:=hi;have I:ops[i]? =some oi:=by simpa using hoi
   have hilt:i<ops.length:=(mG.1 I).1;have hil:i<B.size:=oM
   have hSi:B.getD i false=false:=by simp[hil]at S⊢;exact S
   rw[U i hilt]at hSi;have hpi:p<=i:=by have:=of_decide_eq_false hSi;omega
   by_cases hne:i=p
   ·exact hne
   exfalso;have hanc:=(hT i oi oM I).2 oM p oM;have hcl:∀x y,Anc ops x y->B.getD x false=true->B.getD y false=true:=by
    intro x y hxy;induction hxy with
    |one hx O=>intro hk;have hxl:_<ops.length:=(mG.1 hx).1;have:=hS.edge _ _ hx _ O;rw[U _ hxl]at hk;rw[U _ oM];have:=of_decide_eq_true hk;exact decide_eq_true oM
    |more hx O _ ih2=>intro hk;refine ih2 ?_;have hxl:_<ops.length:=(mG.1 hx).1;have:=hS.edge _ _ hx _ O;rw[U _ hxl]at hk;rw[U _ oM];have:=of_decide_eq_true hk;exact decide_eq_true oM
   have hdir:∀e∈edgesOf oi,B.getD e false=true:=by
    intro e O;unfold edgesOf at O;rw[uAs]at O;obtain⟨x,hx,hxe⟩:=O;split at hxe
    ·rename_i hb;cases hxe;exact hall x (by simpa using hx) hb
    ·cases hxe
   have:B.getD p false=true:=by
    cases hanc with
    |one h O=>rw[I]at h;cases h;exact hdir _ O
    |more h O h'=>rw[I]at h;cases h;exact hcl _ _ h' (hdir _ O)
   rw[hlp]at this;cases this
  subst hip;unfold wpOp;have hoA:ops.toArray[i]? =some o:=by simpa using ho
  simp only[hoA];have hwant:Region.wanted o (yielded ops.toArray a.tmps)=true:=by unfold Region.wanted;rw[hg]
  rw[hwant,if_pos rfl];refine .inl (Oper.wp_mono ?_ (Qs hΓ hgl F Y (show c.m<=nidOf ops base i by unfold nidOf;omega) (hfr i o (mH _) ho) (by rw[Z];exact qM ho) h));rintro a' w' ⟨v',st',R',G',V,h1,rfl,h2,h3,h4,h5,h6⟩;refine ih (i+1) f (B.setIfInBounds i true) ⟨putO o.dst v' st'.s,st'.h⟩ R' G' _ w' oM oM (by simpa using hsz) ?_ oM (h2.put hdst h3) (hst R R' h6 Y) (h5.trans Z) ?_ h1
  ·intro j hj;by_cases hji:j=i
   ·subst hji;rw[decide_eq_true oM];simp[show j<B.size by omega]
   ·have e:=U j hj;have:(B.setIfInBounds i true).getD j false=B.getD j false:=by simp[Array.getElem?_setIfInBounds_ne (fun h=>hji h.symm)]
    rw[this,e,decide_eq_decide];omega
  ·intro j oj hj hoj x hx1 hx2;have:=jE (base:=base) ho hoj oM;exact h4 x oM (hfr j oj oM hoj x hx1 hx2)
structure Fl(L:Nat)(ops:List Oper)(o:Oper)(t d:Nat):Prop where
 op:o.op=.move (.tmp t)
 guard:o.guard=none
 dst:o.dst=some d
 src:∀j,Vc.wrFrom ops 0 t=some j->j<L
theorem zrH{L:Nat}{ops:List Oper}{o:Oper}(h:zmC L ops o=true):∃t d,Fl L ops o t d:=by
 unfold zmC at h;split at h
 ·rename_i t d H B I;refine⟨t,d,H,B,I,fun j J=>?_⟩;rw[J]at h;have B:j+1<=L:=by simpa[Nat.blt]using h
  omega
 ·cases h
theorem zxP{nid t:Nat}{st:St}:Loc E nid (.move (.tmp t)) st (get st.s t) []:=by refine⟨fun _ x B=>(by cases B),fun _ _=>rfl,fun st' j _ _ T k=>?_,fun h=>(by cases h)⟩;have e:get st'.s t=get st.s t:=j (.tmp t) (by simp[Op.operands]);show k (get st'.s t) st'=_;rw[e];rfl
theorem zif{L base i t d:Nat}{o:Oper}{st st':St}(ho:all[i]? =some o)(B:Fl L all o t d)(h:StepS E all base i st st'):st'=⟨put d (get st.s t) st.s,st.h⟩:=by
 obtain⟨o2,v,u,H,rfl,h⟩:=h;rw[ho]at H;cases H;rw[B.dst];rcases h with⟨_,h⟩|⟨j,_⟩
 ·rw[B.op]at h;have e:=h.eff (AV×St) (fun v s=>some (v,s));have S:opK E true (nidOf all base i) (.move (.tmp t)) st (fun v s=>some (v,s))=some (get st.s t,st):=rfl;rw[S]at e;simp only[Option.some.injEq,Prod.mk.injEq]at e;obtain⟨J,O⟩:=e;have I:=congrArg St.h O;simp only at I;rw[<-J,<-I];rfl
 ·unfold zx at j;rw[B.guard]at j;cases j
theorem zrG{L base i t d:Nat}{o:Oper}{st:St}(ho:all[i]? =some o)(j:Fl L all o t d):StepS E all base i st ⟨put d (get st.s t) st.s,st.h⟩:=by refine⟨o,get st.s t,[],ho,by rw[j.dst];rfl,.inl ⟨by unfold zx;rw[j.guard],?_⟩⟩;rw[j.op];exact zxP
theorem Q9(D:List Nat)(st:St)(t:Nat):get (scrub D st).s t=(match D with
  |[]=>get st.s t
  |D=>ya D (get st.s t)):=by
 cases D with
 |nil=>rfl
 |cons a r=>exact Kj
theorem zku{L base:Nat}{v:AV}{D:List Nat}{hh:Heap}{dst:Option Nat}:∀{l:List Nat}{s H:St},(∀i∈l,∃o t d,all[i]? =some o/\Fl L all o t d/\dst≠some d/\dst≠some t)->RunS E all base l s H->
  RunS E all base l ⟨putO dst v (scrub D s).s,hh⟩ ⟨putO dst v (scrub D H).s,hh⟩
 |[],s,H,_,h=>by
  refine⟨fun t=>?_,rfl⟩;show get (putO dst v (scrub D s).s) t=get (putO dst v (scrub D H).s) t;have e:get (scrub D s).s t=get (scrub D H).s t:=by rw[Q9,Q9,h.1 t]
  cases dst with
  |none=>exact e
  |some d=>show get (put d v _) t=get (put d v _) t;rw[js,js,e]
 |i::l,s,H,hl,⟨s1,h1,h2⟩=>by
  obtain⟨o,t,d,ho,J,Y,O⟩:=hl i nR;have S:=zif ho J h1;subst S;have U:=zku (v:=v) (D:=D) (hh:=hh) (dst:=dst) (fun j Z=>hl j (nE _ Z)) h2;refine⟨_,zrG ho J,U.eqv ⟨fun x=>?_,rfl⟩⟩;show get (putO dst v (scrub D ⟨put d (get s.s t) s.s,s.h⟩).s) x=get (put d (get (putO dst v (scrub D s).s) t) (putO dst v (scrub D s).s)) x;rw[js,jQ O];by_cases I:dst=some x
  ·subst I;have B:¬d=x:=fun e=>Y (by rw[e])
   rw[if_neg B];show get (put x v _) x=get (put x v _) x;rw[js,js,if_pos rfl,if_pos rfl]
  ·rw[jQ I,jQ I,Q9,Q9,Q9];simp only[js];by_cases B:d=x
   ·rw[if_pos B,if_pos B]
   ·rw[if_neg B,if_neg B]
def remL(L:Nat)(B:Array Bool):List Nat:=(List.range L).filter fun j=>!B.getD j false
structure At(E:Env)(GP:Ro->Prop)(c:Base)(ops:List Oper)(L p0 base:Nat)(listed:Array Bool)(s:St)(R:Ro)(G:List Res)(a:Act)(w:World):Prop where
 sz:listed.size=ops.length
 tl:∀j,L<=j->j<ops.length->listed.getD j false=decide (j<p0)
 cl:∀i,listed.getD i false=true->∀o,ops[i]? =some o->∀e∈edgesOf o,listed.getD e false=true
 fit:Fit c E.n R G s a w
 gp:GP R
 len:s.h.length=base+rsvAll ops
 free:∀i o,ops[i]? =some o->listed.getD i false=false->FreeR s.h (nidOf ops base i) (rsv o)
theorem zEI(hΓ:∀C∈E.Γ,SoundC E.P GP C)(hgl:∀R,GP R->GlobOK E.gl R)(hst:Stays GP){ops:List Oper}{T:Type}{r:T}{k:St->Option T}{Q:Exit->Act->World->Prop}{L base p0:Nat}(hS:StatOk E.n L ops)(hcm:c.m<=base)
  (hLlt:L<ops.length) (hp0:L<=p0) (hp1:p0<=L+1) (hT:∀i o,L<=i->ops[i]? =some o->o.guard=none/\(L<i->∀j,j<i->Anc ops i j))
  (hK:∀st' R' G' a' w',k st'=some r->Fit c E.n R' G' st' a' w'->GP R'->Q .normal a' w') {stn:St} (hk:j1 E false ops (ops.drop p0) (nidOf ops base p0) stn k=some r)
  (hP:∀(B:Array Bool),(∀j,L<=j->j<ops.length->B.getD j false=decide (j<p0))->(∀i,B.getD i false=true->∀o,ops[i]? =some o->∀e∈edgesOf o,B.getD e false=true)->
   ∀i j oi oj,i<L->j<i->ops[i]? =some oi->ops[j]? =some oj->B.getD i false=false->B.getD j false=false->¬Anc ops i j->Vo (fpW E ops stn (nidOf ops base j) oj) (fpW E ops stn (nidOf ops base i) oi)=true)
  (hsw:p0=L->∀(H:Nat)(B:Array Bool)(s:St)(R:Ro)(G:List Res)(a:Act)(w:World)(o:Oper),At E GP c ops L p0 base B s R G a w->remL L B≠[]->(remL L B).length+(ops.length-(L+1))<=H->ops[L]? =some o->
   (∀e∈edgesOf o,B.getD e false=true)->(∀j,Anc ops L j->B.getD j false=true)->RunS E ops base (remL L B) s stn->wpOp E.P ops.toArray Q L (wpAny E.P .any ops.toArray Q H (B.setIfInBounds L true)) a w):
  ∀(H:Nat)(B:Array Bool)(s:St)(R:Ro)(G:List Res)(a:Act)(w:World),At E GP c ops L p0 base B s R G a w->(remL L B).length+(ops.length-p0)<=H->
   RunS E ops base (remL L B) s stn->wpAny E.P .any ops.toArray Q H B a w:=by
 have hA:∀(j k:Nat)(oj ok:Oper)(d:Nat),ops[j]? =some oj->ops[k]? =some ok->j<=k->k<L->ok.dst=some d->d∉oj.looksAt ops.toArray:=by
  intro j k oj ok d J hk hjk hkM hd ht;rcases hS.look j oj d k J ht (hS.lt k ok d hk hd).2 with h|h
  ·have:=h.lt hS.edge;omega
  ·omega
 have hE:∀(j k:Nat)(oj ok:Oper)(d:Nat),ops[j]? =some oj->ops[k]? =some ok->j≠k->oj.dst=some d->ok.dst≠some d:=by intro j k oj ok d J hk hjk hd hd';have h1:=(hS.lt j oj d J hd).2;have h2:=(hS.lt k ok d hk hd').2;rw[h1]at h2;exact hjk (Option.some.inj h2)
 intro H;have hnot:∀(B:Array Bool),B.size=ops.length->(∃j,j<ops.length/\B.getD j false=false)->Region.ready .any ops.toArray B=[]->False:=by
  intro B hsz ⟨j0,hj0,hjf⟩ hr;have hall:∀j,j<ops.length->B.getD j false=true:=by
   intro j;induction j using Nat.strongRecOn with
   |_ j ih=>
    intro J;cases hb:B.getD j false with
    |true=>rfl
    |false=>
     exfalso;have:j∈Region.ready .any ops.toArray B:=by
      rw[mem_ready];refine⟨?_,ops[j],by simp[J],fun e he hbind=>?_⟩
      ·have U:j<B.size:=oM
       simp[U]at hb⊢;exact hb
      ·have U:=hS.edge j ops[j] (by simp[J]) e.on (by
        unfold edgesOf;rw[uAs];exact⟨e,by simpa using he,by simp[hbind]⟩)
       exact ih e.on U oM
     rw[hr]at this;cases this
  rw[hall j0 hj0]at hjf;cases hjf
 have tail:∀(H:Nat)(B:Array Bool)(s:St)(R:Ro)(G:List Res)(a:Act)(w:World),At E GP c ops L p0 base B s R G a w->(ops.length-p0)<=H->
   remL L B=[]->RunS E ops base (remL L B) s stn->wpAny E.P .any ops.toArray Q H B a w:=by
  intro H B s R G a w I hfu O hR;rw[O]at hR;have F':Fit c E.n R G stn a w:=⟨by rw[<-hR.2];exact I.fit.wrel,by rw[<-hR.2];exact I.fit.since,fun t=>by rw[<-hR.1 t,<-hR.2];exact I.fit.slots t,I.fit.defers,I.fit.size⟩
  refine zvv hΓ hgl hst hS hcm hT hK (ops.length-p0) p0 H B stn R G a w oM hp0 I.sz ?_ hfu F' I.gp (by rw[<-hR.2];exact I.len) (fun i o hi ho=>by have U:=(mG.1 ho).1;rw[<-hR.2];exact I.free i o ho (by rw[I.tl i oM U];exact decide_eq_false oM)) hk
  ·intro j J;by_cases hjL:j<L
   ·rw[decide_eq_true oM];have:=List.filter_eq_nil_iff.1 O j (by simpa using hjL);simpa using this
   ·exact I.tl j oM J
 induction H with
 |zero=>
  intro B s R G a w I hfu hR;have hz:(remL L B).length=0:=oM
  exact tail 0 B s R G a w I oM (nF.1 hz) hR
 |succ H ih=>
  intro B s R G a w I hfu hR;by_cases O:remL L B=[]
  ·exact tail (H+1) B s R G a w I oM O hR
  refine⟨fun hr=>(hnot B I.sz ?_ hr).elim,fun i hi=>?_⟩
  ·obtain⟨j,J⟩:=List.exists_mem_of_ne_nil _ O;have h1:=nP.1 J;have h2:j<L:=by simpa using h1.1
   exact⟨j,oM,by simpa using h1.2⟩
  rw[mem_ready]at hi;obtain⟨hun,o,ho,hall⟩:=hi;have ho':ops[i]? =some o:=by simpa using ho
  have hilt:i<ops.length:=(mG.1 ho').1;have hil:i<B.size:=by rw[I.sz];exact hilt
  have hSi:B.getD i false=false:=by simp[hil]at hun⊢;exact hun
  have hdir:∀e∈edgesOf o,B.getD e false=true:=by
   intro e he;unfold edgesOf at he;rw[uAs]at he;obtain⟨x,hx,hxe⟩:=he;split at hxe
   ·rename_i hb;cases hxe;exact hall x (by simpa using hx) hb
   ·cases hxe
  have hanc:∀k j,Anc ops k j->B.getD k false=true->B.getD j false=true:=by
   intro k j h;induction h with
   |one h he=>intro hk;exact I.cl _ hk _ h _ he
   |more h he _ ih=>intro hk;exact ih (I.cl _ hk _ h _ he)
  have Y:∀j,Anc ops i j->B.getD j false=true:=by
   intro j h;cases h with
   |one h he=>rw[ho']at h;cases h;exact hdir _ he
   |more h he h'=>rw[ho']at h;cases h;exact hanc _ _ h' (hdir _ he)
  by_cases hiL:i=L
  ·subst hiL;have hp:p0=i:=by have:=I.tl i (mH _) hilt;rw[hSi]at this;have:=of_decide_eq_false this.symm;omega
   exact hsw hp H B s R G a w o I O (by rw[hp]at hfu;omega) ho' hdir Y hR
  have hset:∀j,(B.setIfInBounds i true).getD j false=(B.getD j false||Nat.beq j i):=by
   intro j;by_cases hji:j=i
   ·subst hji;simp[hil]
   ·have hne:¬i=j:=fun h=>hji h.symm
    have hb:Nat.beq j i=false:=by
     cases hb:Nat.beq j i with
     |false=>rfl
     |true=>exact absurd (mE hb) hji
    simp[hb,Array.getElem?_setIfInBounds_ne hne]
  have hiL':i<L:=by
   rcases Nat.lt_or_ge i L with h|h
   ·exact h
   ·exfalso;refine O (List.filter_eq_nil_iff.2 fun j J=>?_);have hjL:j<L:=by simpa using J
    simp[Y j ((hT i o h ho').2 oM j oM)]
  obtain⟨l1,l2,g1,g2,g3⟩:=Zo (p:=fun j=>!B.getD j false) (q:=fun j=>!(B.setIfInBounds i true).getD j false) (l:=List.range L) uAP (by simpa using hiL') (by simp only[hSi];rfl)
   (fun j=>by rw[hset];cases B.getD j false<;>cases Nat.beq j i<;>rfl)
  have S:remL L B=l1++i::l2:=g1;have hrem':remL L (B.setIfInBounds i true)=l1++l2:=g2;have hunl:∀j∈l1++i::l2,B.getD j false=false:=by intro j J;rw[<-S]at J;have:=(nP.1 J).2;simpa using this
  rw[S]at hR;obtain⟨s',hstep,hR'⟩:=zDD ho' hA hE l1 s (fun k hk=>by rw[<-S]at hk;have:=(nP.1 hk).1;simpa using this) (by rw[<-S];exact List.Pairwise.filter _ uAP)
   (fun k hk ok d hok hd ht=>by
    rcases hS.look i o d k ho' ht (hS.lt k ok d hok hd).2 with h|h
    ·have:=Y k h;rw[hunl k hk]at this;cases this
    ·rw[<-S]at hk;have:=(nP.1 hk).1;have:k<L:=by simpa using this
     omega)
   (fun j J oj Z=>hP B I.tl I.cl i j o oj hiL' (g3 j J) ho' Z hSi (hunl j (uAc _ J)) (fun hanc=>by have:=Y j hanc;rw[hunl j (uAc _ J)]at this;cases this)) (fun hb hr x hx=>I.free i o ho' hSi x (zgK hb hr x hx).1 (zgK hb hr x hx).2) hR
  obtain⟨o2,v,u,e1,e2,e3⟩:=hstep;rw[ho']at e1;cases e1;have next:∀(R':Ro)(G':List Res)(a':Act)(w':World),Fit c E.n R' G' s' a' w'->GP R'->YW (nidOf ops base i) (rsv o) s.h s'.h->s'.h.length=s.h.length->
    wpAny E.P .any ops.toArray Q H (B.setIfInBounds i true) a' w':=by
   intro R' G' a' w' F' hGP' hno hlen';refine ih (B.setIfInBounds i true) s' R' G' a' w' ⟨by simpa using I.sz,fun j J hj2=>?_,?_,F',hGP',by rw[hlen'];exact I.len,?_⟩ (by rw[hrem'];rw[S]at hfu;simp at hfu⊢;omega) (by rw[hrem'];exact hR')
   ·rw[hset,I.tl j J hj2];cases hb:Nat.beq j i with
    |false=>rw[Bool.or_false]
    |true=>exact absurd (mE hb) oM
   ·intro j J oj Z e he;rw[hset]at J⊢;simp only[nO]at J⊢;rcases J with J|J
    ·exact .inl (I.cl j J oj Z e he)
    ·have:=mE J;subst this;rw[ho']at Z;cases Z;exact .inl (hdir e he)
   ·intro j oj Z J x hx1 hx2;rw[hset]at J;simp only[Bool.or_eq_false_iff]at J;have hne:j≠i:=fun e=>by rw[e]at J;simp at J
    refine hno x (fun hh=>?_) (I.free j oj Z J.1 x hx1 hx2);rcases Nat.lt_or_gt_of_ne hne with U|U
    ·have:=jE (base:=base) Z ho' U;omega
    ·have:=jE (base:=base) ho' Z U;omega
  unfold wpOp;have hoA:ops.toArray[i]? =some o:=by simpa using ho'
  simp only[hoA];have hdst:zcX E.n o.dst=true:=by
   cases hd:o.dst with
   |none=>rfl
   |some d=>exact (hS.lt i o d ho' hd).1
  rcases e3 with⟨hw,hloc⟩|⟨hw,rfl,rfl⟩
  ·rw[jV I.fit hS hw,if_pos rfl];have heff:=hloc.eff (AV×St) (fun v s=>some (v,s));refine .inl (Oper.wp_mono ?_ (Qs hΓ hgl I.fit I.gp (show c.m<=nidOf ops base i by unfold nidOf;omega) (I.free i o ho' hSi) (by rw[I.len];exact qM ho') heff));rintro a' w' ⟨v',st',R',G',V,h1,rfl,h2,h3,h4,h5,h6⟩;simp only[Option.some.injEq,Prod.mk.injEq]at h1;obtain⟨rfl,rfl⟩:=h1;have F2:=h2.put hdst h3;exact next R' G' _ w' (by rw[e2];exact F2) (hst R R' h6 I.gp) (by rw[e2];exact h4) (by rw[e2];exact h5)
  ·rw[jV I.fit hS hw];simp only[nA,if_false];have F2:=I.fit.put (v:=.tup []) (V:=undef) hdst ⟨[],rfl,rfl⟩;exact next R G _ w (by rw[e2];exact F2) I.gp (by rw[e2];exact fun _ _ h=>h) (by rw[e2];rfl)
theorem zeT(hm:E.P.follows .mixedOrders=true)(hΓ:∀C∈E.Γ,SoundC E.P GP C)(hgl:∀R,GP R->GlobOK E.gl R)(hst:Stays GP){ops:List Oper}{T:Type}{r:T}{k:St->Option T}{Q:Exit->Act->World->Prop}{st:St}{R:Ro}{G:List Res}
  {a:Act} {w:World} (F:Fit c E.n R G st a w) (hGP:GP R) {m L:Nat} (hL:L=ops.length-m) (U:L<ops.length) (hT:∀i o,L<=i->ops[i]? =some o->o.guard=none/\(L<i->∀j,j<i->Anc ops i j))
  (hF:∀o,ops[L]? =some o->∀j,j<L->Anc ops L j\/(Zk o.op=true/\∃Z t d,ops[j]? =some Z/\Fl L ops Z t d))
  {id:Nat} {alt:Option T} (halt:alt=some r->(Code.region id ops.toArray true).wp E.P Q a w) (h:Z1 E m ops st alt k=some r) (hK:∀st' R' G' a' w',k st'=some r->Fit c E.n R' G' st' a' w'->GP R'->Q .normal a' w'):
  (Code.region id ops.toArray true).wp E.P Q a w:=by
 unfold Z1 at h;split at h
 ·rename_i hstat;have hS:=zrd hstat;rw[<-hL]at h hS;obtain⟨G0,F0,hfree,hlen⟩:=F.wide (rsvAll ops);have hrun:=zrN (E:=E) (all:=ops) (base:=st.h.length) (ops.take L) 0 ⟨st.s,wide st.h (rsvAll ops)⟩ ⟨ops.drop L,by rw[nS];exact (mW L ops).symm⟩ (by simpa[nidOf,rsvAll]using h);rw[mI,uAF oM]at hrun;obtain⟨stn,hk,hrun⟩:=hrun;split at hk
  ·rename_i hpairs;have hcm:c.m<=st.h.length:=F.since.many;refine wp_region_any hm ?_;obtain⟨Y,H⟩:∃o,ops[L]? =some o:=⟨ops[L],mJ U⟩
   have hE:∀(j k:Nat)(Z ok:Oper)(d:Nat),ops[j]? =some Z->ops[k]? =some ok->j≠k->Z.dst=some d->ok.dst≠some d:=by intro j k Z ok d O hk hjk hd hd';have h1:=(hS.lt j Z d O hd).2;have h2:=(hS.lt k ok d hk hd').2;rw[h1]at h2;exact hjk (Option.some.inj h2)
   refine zEI (p0:=L) hΓ hgl hst hS hcm U (mH _) oM hT hK hk (fun B _ _ i j oi Z hi hji hoi hoj _ _ hna=>zhC hpairs hoi hoj hji hna) ?_ ops.toArray.size _ ⟨st.s,wide st.h (rsvAll ops)⟩ R G0 a _
    ⟨sI,fun j O hj2=>?_,?_,F0.keep (Keeps.drawn w _),hGP,hlen,fun i o hi _ x hx1 hx2=>hfree x (by unfold nidOf at hx1;omega)⟩ ?_ ?_
   ·
     intro _ fuel B s R G a w o I hne hfu ho hdir hanc hR;rw[H]at ho;cases ho;have hfl:∀j∈remL L B,∃Z t d,ops[j]? =some Z/\Fl L ops Z t d/\Y.dst≠some d/\Y.dst≠some t:=by
      intro j O;have h1:=nP.1 O;have h2:j<L:=by simpa using h1.1
      have h3:B.getD j false=false:=by simpa using h1.2
      rcases hF Y H j h2 with h|⟨_,Z,t,d,e1,e2⟩
      ·rw[hanc j h]at h3;cases h3
      ·refine⟨Z,t,d,e1,e2,fun hd=>hE L j Y Z d H e1 oM hd e2.dst,fun ht=>?_⟩;have:=e2.src L (hS.lt L Y t H ht).2;omega
     have happ:(remL L B)≠[]->Zk Y.op=true:=by
      intro hne;obtain⟨j,O⟩:=List.exists_mem_of_ne_nil _ hne;have h1:=nP.1 O;have h2:j<L:=by simpa using h1.1
      have h3:B.getD j false=false:=by simpa using h1.2
      rcases hF Y H j h2 with h|⟨h,_⟩
      ·rw[hanc j h]at h3;cases h3
      ·exact h
     have hdl:ops.drop L=Y::ops.drop (L+1):=by rw[uAl U];congr 1;exact Option.some.inj ((mJ U).symm.trans H)
     have hnid:nidOf ops st.h.length L+rsv Y=nidOf ops st.h.length (L+1):=by unfold nidOf;have:=yH H;omega
     have hdst:zcX E.n Y.dst=true:=by
      cases hd:Y.dst with
      |none=>rfl
      |some d=>exact (hS.lt L Y d H hd).1
     have hg:=(hT L Y (mH _) H).1;have hk2:=hk;rw[hdl]at hk2;simp only[j1,hdst,hg]at hk2;have hil:L<B.size:=by rw[I.sz];exact U
     have hLf:B.getD L false=false:=by rw[I.tl L (mH _) U];exact decide_eq_false oM
     have hset:∀j,(B.setIfInBounds L true).getD j false=(B.getD j false||Nat.beq j L):=by
      intro j;by_cases hji:j=L
      ·subst hji;simp[hil]
      ·have hne:¬L=j:=fun h=>hji h.symm
       have hb:Nat.beq j L=false:=by
        cases hb:Nat.beq j L with
        |false=>rfl
        |true=>exact absurd (mE hb) hji
       simp[hb,Array.getElem?_setIfInBounds_ne hne]
     have hremS:remL L (B.setIfInBounds L true)=remL L B:=by
      unfold remL;refine List.filter_congr fun j O=>?_
      have O:j<L:=by simpa using O
      rw[hset];cases hb:Nat.beq j L with
      |false=>rw[Bool.or_false]
      |true=>exact absurd (mE hb) oM
     have hlook:∀x∈Y.op.operands,opnd E.gl s.s x=opnd E.gl stn.s x:=by
      refine yc (all:=ops) (fun t ht=>(hR.slots t fun k hk ok hok hd=>?_).symm);have h1:=nP.1 hk;have h2:k<L:=by simpa using h1.1
      have h3:B.getD k false=false:=by simpa using h1.2
      rcases hS.look L Y t k H ht (hS.lt k ok t hok hd).2 with h|h
      ·rw[hanc k h]at h3;cases h3
      ·omega
     have hheap:∀(l:List Nat)(s stn:St),(∀j∈l,∃Z t d,ops[j]? =some Z/\Fl L ops Z t d/\Y.dst≠some d/\Y.dst≠some t)->RunS E ops st.h.length l s stn->stn.h=s.h:=by
      intro l;induction l with
      |nil=>intro s stn _ h;exact h.2.symm
      |cons j l ih=>intro s stn hl ⟨s1,h1,h2⟩;obtain⟨Z,t,d,e1,e2,_⟩:=hl j nR;have e3:=zif e1 e2 h1;have e4:=ih s1 stn (fun j O=>hl j (nE _ O)) h2;rw[e3]at e4;exact e4
     have eff:∃v D hh,j1 E false ops (ops.drop (L+1)) (nidOf ops st.h.length (L+1)) ⟨putO Y.dst v (scrub D stn).s,hh⟩ k=some r/\opK E false (nidOf ops st.h.length L) Y.op s (fun v st'=>some (v,st'))=some (v,⟨(scrub D s).s,hh⟩)/\
       RunS E ops st.h.length (remL L B) ⟨putO Y.dst v (scrub D s).s,hh⟩ ⟨putO Y.dst v (scrub D stn).s,hh⟩:=by
      obtain⟨v,D,hh,h1,h2⟩:=ziP (happ hne) hk2;refine⟨v,D,hh,?_,h2 s (hheap _ _ _ hfl hR).symm hlook _ _,zku hfl hR⟩;rw[<-hnid];exact h1
     obtain⟨v,D,hh,hk3,hop,hR3⟩:=eff;unfold wpOp;have hoA:ops.toArray[L]? =some Y:=by simpa using H
     simp only[hoA];have hwant:Region.wanted Y (yielded ops.toArray a.tmps)=true:=by unfold Region.wanted;rw[hg]
     rw[hwant,if_pos rfl];refine .inl (Oper.wp_mono ?_ (Qs hΓ hgl I.fit I.gp (show c.m<=nidOf ops st.h.length L by unfold nidOf;omega) (I.free L Y H hLf) (by rw[I.len];exact qM H) hop));rintro a' w' ⟨v',st',R',G',V,h1,rfl,h2,h3,h4,h5,h6⟩;simp only[Option.some.injEq,Prod.mk.injEq]at h1;rw[h1.2]at h2 h4 h5;rw[h1.1,h1.2]at h3;refine zEI (p0:=L+1) hΓ hgl hst hS hcm U oM (mH _) hT hK hk3 (fun J hl1 hl2 i j oi Z hi hji hoi hoj hui huj _=>?_) (fun h=>oM) fuel (B.setIfInBounds L true) ⟨putO Y.dst v (scrub D s).s,hh⟩ R' G' _ w'
      ⟨by simpa using I.sz,fun j O hj2=>?_,fun j O Z hoj e he=>?_,h2.put hdst h3,hst R R' h6 I.gp,h5.trans I.len,fun j Z hoj O x hx1 hx2=>?_⟩ (by rw[hremS];exact hfu) (by rw[hremS];exact hR3)
     ·
       have hflo:∀q oq,q<L->ops[q]? =some oq->J.getD q false=false->∃t d,Fl L ops oq t d:=by
        intro q oq hq hoq huq;rcases hF Y H q hq with h|⟨_,Z,t,d,e1,e2⟩
        ·exfalso;have hLl:J.getD L false=true:=by rw[hl1 L (mH _) U];exact decide_eq_true oM
         have hcl2:∀k j,Anc ops k j->J.getD k false=true->J.getD j false=true:=by
          intro k j h;induction h with
          |one h he=>intro hk;exact hl2 _ hk _ h _ he
          |more h he _ ih=>intro hk;exact ih (hl2 _ hk _ h _ he)
         rw[hcl2 L q h hLl]at huq;cases huq
        ·rw[hoq]at e1;cases e1;exact⟨t,d,e2⟩
       obtain⟨t1,d1,f1⟩:=hflo i oi hi hoi hui;obtain⟨t2,d2,f2⟩:=hflo j Z oM hoj huj;have hfp:∀{o:Oper}{t d n:Nat}{S:St},Fl L ops o t d->fpW E ops S n o=⟨[],[],false⟩:=by intro o t d n S hf;rw[Xb (by unfold zx;rw[hf.guard]),hf.op];rfl
       rw[hfp f1,hfp f2];rfl
     ·rw[hset,I.tl j O hj2];by_cases hjL:j=L
      ·subst hjL;rw[Nat.beq_refl,Bool.or_true,decide_eq_true oM]
      ·have hb:Nat.beq j L=false:=by
        cases hb:Nat.beq j L with
        |false=>rfl
        |true=>exact absurd (mE hb) hjL
       rw[hb,Bool.or_false,decide_eq_decide];omega
     ·rw[hset]at O⊢;simp only[nO]at O⊢;rcases O with O|O
      ·exact .inl (I.cl j O Z hoj e he)
      ·have:=mE O;subst this;rw[H]at hoj;cases hoj;exact .inl (hdir e he)
     ·rw[hset]at O;simp only[Bool.or_eq_false_iff]at O;have hne:j≠L:=fun e=>by rw[e]at O;simp at O
      refine h4 x (fun hh=>?_) (I.free j Z hoj O.1 x hx1 hx2);rcases Nat.lt_or_gt_of_ne hne with hlt|hlt
      ·have:=jE (base:=st.h.length) hoj H hlt;omega
      ·have:=jE (base:=st.h.length) H hoj hlt;omega
   ·simp[hj2];omega
   ·intro i hi;exfalso;by_cases hlt:i<ops.length
    ·simp[hlt]at hi
    ·simp[hlt]at hi
   ·have h1:=List.length_filter_le (fun j=>!(Array.replicate ops.toArray.size false).getD j false) (List.range L);have h2:(List.range L).length+(ops.length-L)<=ops.toArray.size:=by simp;omega
    exact nD (Nat.add_le_add_right h1 _) h2
   ·have:remL L (Array.replicate ops.toArray.size false)=List.range' 0 L:=by
     show(List.range L).filter _=_;rw[List.filter_eq_self.2,List.range_eq_range'];intro j O;have:j<L:=by simpa using O
     simp[show j<ops.length by omega]
    rw[this];exact hrun
  ·exact halt hk
 ·exact halt h
theorem zik(Z:E.P.follows .mixedOrders=true)(hΓ:∀C∈E.Γ,SoundC E.P GP C)(J:∀R,GP R->GlobOK E.gl R)(S:Stays GP){ops:List Oper}{T:Type}{r:T}{k:St->Option T}{Q:Exit->Act->World->Prop}{st:St}{R:Ro}{G:List Res}
  {a:Act} {w:World} (F:Fit c E.n R G st a w) (O:GP R) {m:Nat} (hm1:1<=m) (ht:za4 m ops=true) {id:Nat} {B:Option T} (H:B=some r->(Code.region id ops.toArray true).wp E.P Q a w) (h:Z1 E m ops st B k=some r) (hK:∀st' R' G' Y w',k st'=some r->Fit c E.n R' G' st' Y w'->GP R'->Q .normal Y w'):
  (Code.region id ops.toArray true).wp E.P Q a w:=by
 obtain⟨U,I⟩:=zus ht;exact zeT Z hΓ J S F O rfl oM (fun i o hi ho=>⟨(I i o hi ho).1,fun _=>(I i o hi ho).2⟩) (fun o ho j hj=>.inl ((I _ o (mH _) ho).2 j hj)) H h hK
theorem zwn{L:Nat}{ops:List Oper}(h:znT L ops=true):L<ops.length/\(∀i o,L<=i->ops[i]? =some o->o.guard=none/\(L<i->∀j,j<i->Anc ops i j))/\
  ∀o,ops[L]? =some o->∀j,j<L->Anc ops L j\/(Zk o.op=true/\∃S t d,ops[j]? =some S/\Fl L ops S t d):=by
 unfold znT at h;simp only[mF]at h;obtain⟨O,h2⟩:=h;split at O
 ·rename_i oL lL H Y;simp only[mF]at O;obtain⟨ha,U,J⟩:=O;have Z:=(mG.1 H).1;have I:∀{o:Oper},(match o.guard with
   |none=>true
   |some _=>false)=true->o.guard=none:=by
   intro o h;split at h
   ·assumption
   ·cases h
  refine⟨Z,fun i o hi ho=>?_,fun o ho j hj=>?_⟩
  ·by_cases hiL:i=L
   ·subst hiL;rw[H]at ho;cases ho;exact⟨I U,fun h=>oM⟩
   ·have hil:=(mG.1 ho).1;have:=mT.1 h2 (i-(L+1)) (by rw[List.mem_range];omega);rw[show L+1+(i-(L+1))=i by omega,ho]at this;split at this
    ·rename_i o' l h3 hB;cases h3;rw[mF]at this;refine⟨I this.1,fun _ j hj=>?_⟩;have B:=mT.1 this.2 j (by simpa using hj);refine zV ?_;rw[hB];exact zG.1 B
    ·cases this
  ·rw[H]at ho;cases ho;have B:=mT.1 J j (by simpa using hj);rw[nO]at B;rcases B with B|B
   ·left;refine zV ?_;rw[Y];exact zG.1 B
   ·right;split at B
    ·rename_i S hoj;obtain⟨t,d,hf⟩:=zrH B;exact⟨ha,S,t,d,hoj,hf⟩
    ·cases B
 ·cases O
theorem zrR(Y:E.P.follows .mixedOrders=true)(hΓ:∀C∈E.Γ,SoundC E.P GP C)(H:∀R,GP R->GlobOK E.gl R)(O:Stays GP){ops:List Oper}{T:Type}{r:T}{k:St->Option T}{Q:Exit->Act->World->Prop}{st:St}{R:Ro}{G:List Res}
  {a:Act} {w:World} (F:Fit c E.n R G st a w) (I:GP R) {L:Nat} (ht:znT L ops=true) {id:Nat} {j:Option T} (B:j=some r->(Code.region id ops.toArray true).wp E.P Q a w) (h:Z1 E (ops.length-L) ops st j k=some r) (hK:∀st' R' G' S w',k st'=some r->Fit c E.n R' G' st' S w'->GP R'->Q .normal S w'):
  (Code.region id ops.toArray true).wp E.P Q a w:=by
 obtain⟨J,U,Z⟩:=zwn ht;exact zeT Y hΓ H O F I (L:=L) oM J U Z B h hK
theorem zbx(O:E.P.follows .mixedOrders=true)(U:∀C∈E.Γ,SoundC E.P GP C)(B:∀R,GP R->GlobOK E.gl R)(I:Stays GP){ops:List Oper}{T:Type}{r:T}{k:St->Option T}{Q:Exit->Act->World->Prop}{st:St}{R:Ro}{G:List Res}
  {a:Act} {w:World} (F:Fit c E.n R G st a w) (H:GP R) (h:Y9 E ops st k=some r) (S:∀st' R' G' Y w',k st'=some r->Fit c E.n R' G' st' Y w'->GP R'->Q .normal Y w') {id:Nat}:
  (Code.region id ops.toArray true).wp E.P Q a w:=by
 have j:yp E ops st k=some r->(Code.region id ops.toArray true).wp E.P Q a w:=fun h=>zrQ O U B I F H h S
 unfold Y9 at h;split at h
 ·rename_i J;exact zrR O U B I F H J j h S
 ·split at h
  ·rename_i J;rw[mF]at J;exact zik O U B I F H dE J.1 j h S
  ·split at h
   ·rename_i J;rw[mF]at J;exact zik O U B I F H dE J.1 j h S
   ·split at h
    ·exact j h
    ·exact zvz O U B I F H j h S
end
end Go.Am
