/-
  A part of the proof of the laws.
-/
import Derived.Test.YtckmndepnihanaaGreatDoorAm28
namespace Go.Am
open Go Go.RowKit Go.Vc
section
variable {E : Env} {all : List Oper} {base : Nat}
theorem zkG{T:Type}{k:St→Option T}{r:T}:∀(ops:List Oper)(i:Nat)(st:St),(∃tl,all.drop i=ops++tl)→yc E true all ops (nidOf all base i) st k=some r→
  ∃stn,k stn=some r∧RunS E all base (List.range' i ops.length) st stn:=by
 intro ops;induction ops with
 |nil=>intro i st _ h;exact⟨st,h,Eqv.refl _⟩
 |cons o rest ih=>
  intro i st hdrop h;obtain⟨tl,hdrop⟩:=hdrop;have hi:all[i]? =some o:=by have:=congrArg (·[0]?) hdrop;simpa[List.getElem?_drop]using this
  have hrest:∃tl,all.drop (i+1)=rest++tl:=⟨tl,by have:=congrArg (List.drop 1) hdrop;simpa[List.drop_drop,Nat.add_comm]using this⟩
  have hnid:nidOf all base i+rsv o=nidOf all base (i+1):=by unfold nidOf;have:=yk hi;omega
  rw[List.length_cons,List.range'_succ];simp only[yc,hnid]at h;split at h
  ·cases h
  ·have go:∀(st0:St),Eqv st0 st→zu all o st=some true→opK E true (nidOf all base i) o.op st0 (fun v st'=>yc E true all rest (nidOf all base (i+1)) ⟨putO o.dst v st'.s,st'.h⟩ k)=some r→
     ∃stn,k stn=some r∧RunS E all base (i::List.range' (i+1) rest.length) st stn:=by
    intro st0 e0 hw h0;obtain⟨v,u,h1,h2⟩:=QP h0;obtain⟨stn,h5,h6⟩:=ih (i+1) _ hrest h1;have hstep:StepS E all base i st0 ⟨putO o.dst v st0.s,jA st0.h u⟩:=⟨o,v,u,hi,rfl,.inl ⟨(zt (fun t _=>e0.1 t)).trans hw,h2⟩⟩
    obtain⟨st2,h7,h8⟩:=hstep.eqv e0;exact⟨stn,h5,st2,h7,h6.eqv h8⟩
   have no:∀(st0:St),Eqv st0 st→zu all o st=some false→yc E true all rest (nidOf all base (i+1)) ⟨putO o.dst (.tup []) st0.s,st0.h⟩ k=some r→
     ∃stn,k stn=some r∧RunS E all base (i::List.range' (i+1) rest.length) st stn:=by
    intro st0 e0 hw h0;obtain⟨stn,h5,h6⟩:=ih (i+1) _ hrest h0;have hstep:StepS E all base i st0 ⟨putO o.dst (.tup []) st0.s,jA st0.h []⟩:=⟨o,.tup [],[],hi,rfl,.inr ⟨(zt (fun t _=>e0.1 t)).trans hw,rfl,rfl⟩⟩
    obtain⟨st2,h7,h8⟩:=hstep.eqv e0;exact⟨stn,h5,st2,h7,h6.eqv h8⟩
   split at h
   ·rename_i hg;exact go st (Eqv.refl _) (by unfold zu;rw[hg]) h
   ·rename_i g want hg;split at h
    ·rename_i t ht;split at h
     ·rename_i b hlt hb;have hw:zu all o st=some (b==want):=by unfold zu;simp only[hg,ht,hb]
      have e0:Eqv ⟨put t (.bool b) st.s,st.h⟩ st:=by
       refine⟨fun x=>?_,rfl⟩;show get (put t (.bool b) st.s) x=get st.s x;rw[jb];split
       ·rename_i e;subst e;exact hb.symm
       ·rfl
      cases b<;>cases want<;>simp only[cond_true,cond_false]at h
      ·exact go _ e0 hw h
      ·exact no _ e0 hw h
      ·exact no _ e0 hw h
      ·exact go _ e0 hw h
     ·rename_i hlt hb;exact no st (Eqv.refl _) (by unfold zu;simp only[hg,ht,hb]) h
     ·cases h
    ·cases h
theorem zmX{m:Nat}{ops:List Oper}(h:Xw m ops=true):m≤ops.length∧∀i o,ops.length-m≤i→ops[i]? =some o→o.guard=none∧∀j,j<i→Anc ops i j:=by
 unfold Xw at h;simp only[Bool.and_eq_true]at h;obtain⟨h1,h2⟩:=h;have h1:=Nat.le_of_ble_eq_true h1;refine⟨h1,fun i o hi ho=>?_⟩;have hlt:i<ops.length:=(List.getElem?_eq_some_iff.1 ho).1;have:=List.all_eq_true.1 h2 (i-(ops.length-m)) (by rw[List.mem_range];omega);rw[show ops.length-m+(i-(ops.length-m))=i by omega,ho]at this;split at this
 ·rename_i o' l h3 hB;cases h3;rw[Bool.and_eq_true]at this;refine⟨?_,fun j hj=>?_⟩
  ·have h4:=this.1;split at h4
   ·assumption
   ·cases h4
  ·have h5:=List.all_eq_true.1 this.2 j (by simpa using hj);refine zI ?_;rw[hB];exact zy.1 h5
 ·cases this
variable {GP : Ro → Prop} {c : Base}
theorem znt(hΓ:∀C∈E.Γ,SoundC E.P GP C)(hgl:∀R,GP R→GlobOK E.gl R)(hst:Stays GP){ops:List Oper}{T:Type}{r:T}{k:St→Option T}{Q:Exit→Act→World→Prop}{L base:Nat}(hS:StatOk E.n L ops)(hcm:c.m≤base)
  (hT:∀i o,L≤i→ops[i]? =some o→o.guard=none∧(L<i→∀j,j<i→Anc ops i j)) (hK:∀st' R' G' a' w',k st'=some r→Fit c E.n R' G' st' a' w'→GP R'→Q .normal a' w'):
  ∀(m p fuel:Nat)(listed:Array Bool)(s:St)(R:Ro)(G:List Res)(a:Act)(w:World),p+m=ops.length→L≤p→listed.size=ops.length→(∀j,j<ops.length→listed.getD j false=decide (j<p))→m≤fuel→
   Fit c E.n R G s a w→GP R→s.h.length=base+rsvAll ops→(∀i o,p≤i→ops[i]? =some o→FreeR s.h (nidOf ops base i) (rsv o))→yc E false ops (ops.drop p) (nidOf ops base p) s k=some r→wpAny E.P .any ops.toArray Q fuel listed a w:=by
 intro m;induction m with
 |zero=>
  intro p fuel listed s R G a w hp _ hsz hl _ F hGP _ _ h;rw[List.drop_of_length_le (by omega)]at h;have hQ:=hK _ R G a w h F hGP;have hrdy:Region.ready .any ops.toArray listed=[]:=by
   rcases hc:Region.ready .any ops.toArray listed with _|⟨j,r⟩
   ·rfl
   ·exfalso;have hj:j∈Region.ready .any ops.toArray listed:=by rw[hc];simp
    rw[mem_ready]at hj;obtain⟨hun,o',ho',_⟩:=hj;have hjlt:j<ops.length:=(List.getElem?_eq_some_iff.1 (show ops[j]? =some o' by simpa using ho')).1;have:=hl j hjlt;have hjl:j<listed.size:=by omega
    have hSj:listed.getD j false=false:=by simp[hjl]at hun⊢;exact hun
    rw[this,decide_eq_true (by omega)]at hSj;cases hSj
  cases fuel with
  |zero=>exact⟨hrdy,hQ⟩
  |succ fuel=>exact⟨fun _=>hQ,fun j hj=>by rw[hrdy]at hj;cases hj⟩
 |succ m ih=>
  intro p fuel listed s R G a w hp hLp hsz hl hfu F hGP hlen hfr h;obtain⟨f,rfl⟩:∃f,fuel=f+1:=⟨fuel-1,by omega⟩
  have hplt:p<ops.length:=by omega
  obtain⟨o,ho⟩:∃o,ops[p]? =some o:=⟨ops[p],List.getElem?_eq_getElem hplt⟩
  obtain⟨hg,hTp⟩:=hT p o hLp ho;have hdp:ops.drop p=o::ops.drop (p+1):=by rw[List.drop_eq_getElem_cons hplt];congr 1;exact Option.some.inj ((List.getElem?_eq_getElem hplt).symm.trans ho)
  have hnid:nidOf ops base p+rsv o=nidOf ops base (p+1):=by unfold nidOf;have:=yk ho;omega
  have hlp:listed.getD p false=false:=by rw[hl p hplt];exact decide_eq_false (by omega)
  have hdst:VM E.n o.dst=true:=by
   cases hd:o.dst with
   |none=>rfl
   |some d=>exact (hS.lt p o d ho hd).1
  rw[hdp]at h;simp only[yc,hnid,hdst,hg]at h;have hpr:p∈Region.ready .any ops.toArray listed:=by
   rw[mem_ready];refine⟨?_,o,by simpa using ho,fun e he hbind=>?_⟩
   ·have hlt:p<listed.size:=by omega
    simp[hlt]at hlp⊢;exact hlp
   ·have hlt:=hS.edge p o ho e.on (by
     unfold edgesOf;rw[List.mem_filterMap];exact⟨e,by simpa using he,by simp[hbind]⟩)
    rw[hl e.on (by omega)];exact decide_eq_true hlt
  refine⟨(fun hr=>by rw[hr]at hpr;cases hpr),fun i hi=>?_⟩;have hip:i=p:=by
   rw[mem_ready]at hi;obtain⟨hun,oi,hoi,hall⟩:=hi;have hoi':ops[i]? =some oi:=by simpa using hoi
   have hilt:i<ops.length:=(List.getElem?_eq_some_iff.1 hoi').1;have hil:i<listed.size:=by omega
   have hSi:listed.getD i false=false:=by simp[hil]at hun⊢;exact hun
   rw[hl i hilt]at hSi;have hpi:p≤i:=by have:=of_decide_eq_false hSi;omega
   by_cases hne:i=p
   ·exact hne
   exfalso;have hanc:=(hT i oi (by omega) hoi').2 (by omega) p (by omega);have hcl:∀x y,Anc ops x y→listed.getD x false=true→listed.getD y false=true:=by
    intro x y hxy;induction hxy with
    |one hx he=>intro hk;have hxl:_<ops.length:=(List.getElem?_eq_some_iff.1 hx).1;have:=hS.edge _ _ hx _ he;rw[hl _ hxl]at hk;rw[hl _ (by omega)];have:=of_decide_eq_true hk;exact decide_eq_true (by omega)
    |more hx he _ ih2=>intro hk;refine ih2 ?_;have hxl:_<ops.length:=(List.getElem?_eq_some_iff.1 hx).1;have:=hS.edge _ _ hx _ he;rw[hl _ hxl]at hk;rw[hl _ (by omega)];have:=of_decide_eq_true hk;exact decide_eq_true (by omega)
   have hdir:∀e∈edgesOf oi,listed.getD e false=true:=by
    intro e he;unfold edgesOf at he;rw[List.mem_filterMap]at he;obtain⟨x,hx,hxe⟩:=he;split at hxe
    ·rename_i hb;cases hxe;exact hall x (by simpa using hx) hb
    ·cases hxe
   have:listed.getD p false=true:=by
    cases hanc with
    |one h he=>rw[hoi']at h;cases h;exact hdir _ he
    |more h he h'=>rw[hoi']at h;cases h;exact hcl _ _ h' (hdir _ he)
   rw[hlp]at this;cases this
  subst hip;unfold wpOp;have hoA:ops.toArray[i]? =some o:=by simpa using ho
  simp only[hoA];have hwant:Region.wanted o (yielded ops.toArray a.tmps)=true:=by unfold Region.wanted;rw[hg]
  rw[hwant,if_pos rfl];refine .inl (Oper.wp_mono ?_ (Z9 hΓ hgl F hGP (show c.m≤nidOf ops base i by unfold nidOf;omega) (hfr i o (Nat.le_refl _) ho) (by rw[hlen];exact yT ho) h));rintro a' w' ⟨v',st',R',G',V,h1,rfl,h2,h3,h4,h5,h6⟩;refine ih (i+1) f (listed.setIfInBounds i true) ⟨putO o.dst v' st'.s,st'.h⟩ R' G' _ w' (by omega) (by omega) (by simpa using hsz) ?_ (by omega) (h2.put hdst h3) (hst R R' h6 hGP) (h5.trans hlen) ?_ h1
  ·intro j hj;by_cases hji:j=i
   ·subst hji;rw[decide_eq_true (by omega)];simp[show j<listed.size by omega]
   ·have e:=hl j hj;have:(listed.setIfInBounds i true).getD j false=listed.getD j false:=by simp[Array.getElem?_setIfInBounds_ne (fun h=>hji h.symm)]
    rw[this,e,decide_eq_decide];omega
  ·intro j oj hj hoj x hx1 hx2;have:=jl (base:=base) ho hoj (by omega);exact h4 x (by omega) (hfr j oj (by omega) hoj x hx1 hx2)
structure Fl(L:Nat)(ops:List Oper)(o:Oper)(t d:Nat):Prop where
 op:o.op=.move (.tmp t)
 guard:o.guard=none
 dst:o.dst=some d
 src:∀j,Vc.wrFrom ops 0 t=some j→j<L
theorem zkD{L:Nat}{ops:List Oper}{o:Oper}(h:zhp L ops o=true):∃t d,Fl L ops o t d:=by
 unfold zhp at h;split at h
 ·rename_i t d h1 h2 h3;refine⟨t,d,h1,h2,h3,fun j hj=>?_⟩;rw[hj]at h;have h2:j+1≤L:=by simpa[Nat.blt]using h
  omega
 ·cases h
theorem zra{nid t:Nat}{st:St}:Loc E nid (.move (.tmp t)) st (get st.s t) []:=by refine⟨fun _ x hx=>(by cases hx),fun _ _=>rfl,fun st' h1 _ _ T k=>?_,fun h=>(by cases h)⟩;have e:get st'.s t=get st.s t:=h1 (.tmp t) (by simp[Op.operands]);show k (get st'.s t) st'=_;rw[e];rfl
theorem zdr{L base i t d:Nat}{o:Oper}{st st':St}(ho:all[i]? =some o)(hf:Fl L all o t d)(h:StepS E all base i st st'):st'=⟨put d (get st.s t) st.s,st.h⟩:=by
 obtain⟨o2,v,u,e1,rfl,h⟩:=h;rw[ho]at e1;cases e1;rw[hf.dst];rcases h with⟨_,h⟩|⟨hw,_⟩
 ·rw[hf.op]at h;have e:=h.eff (AV×St) (fun v s=>some (v,s));have e2:opK E true (nidOf all base i) (.move (.tmp t)) st (fun v s=>some (v,s))=some (get st.s t,st):=rfl;rw[e2]at e;simp only[Option.some.injEq,Prod.mk.injEq]at e;obtain⟨q1,q2⟩:=e;have q3:=congrArg St.h q2;simp only at q3;rw[←q1,←q3];rfl
 ·unfold zu at hw;rw[hf.guard]at hw;cases hw
theorem zkC{L base i t d:Nat}{o:Oper}{st:St}(ho:all[i]? =some o)(hf:Fl L all o t d):StepS E all base i st ⟨put d (get st.s t) st.s,st.h⟩:=by refine⟨o,get st.s t,[],ho,by rw[hf.dst];rfl,.inl ⟨by unfold zu;rw[hf.guard],?_⟩⟩;rw[hf.op];exact zra
theorem Jt(D:List Nat)(st:St)(t:Nat):get (scrub D st).s t=(match D with
  |[]=>get st.s t
  |D=>jM D (get st.s t)):=by
 cases D with
 |nil=>rfl
 |cons a r=>exact Ye
theorem ze5{L base:Nat}{v:AV}{D:List Nat}{hh:Heap}{dst:Option Nat}:∀{l:List Nat}{s stn:St},(∀i∈l,∃o t d,all[i]? =some o∧Fl L all o t d∧dst≠some d∧dst≠some t)→RunS E all base l s stn→
  RunS E all base l ⟨putO dst v (scrub D s).s,hh⟩ ⟨putO dst v (scrub D stn).s,hh⟩
 |[],s,stn,_,h=>by
  refine⟨fun t=>?_,rfl⟩;show get (putO dst v (scrub D s).s) t=get (putO dst v (scrub D stn).s) t;have e:get (scrub D s).s t=get (scrub D stn).s t:=by rw[Jt,Jt,h.1 t]
  cases dst with
  |none=>exact e
  |some d=>show get (put d v _) t=get (put d v _) t;rw[jb,jb,e]
 |i::l,s,stn,hl,⟨s1,h1,h2⟩=>by
  obtain⟨o,t,d,ho,hf,n1,n2⟩:=hl i List.mem_cons_self;have e1:=zdr ho hf h1;subst e1;have ih:=ze5 (v:=v) (D:=D) (hh:=hh) (dst:=dst) (fun j hj=>hl j (List.mem_cons_of_mem _ hj)) h2;refine⟨_,zkC ho hf,ih.eqv ⟨fun x=>?_,rfl⟩⟩;show get (putO dst v (scrub D ⟨put d (get s.s t) s.s,s.h⟩).s) x=get (put d (get (putO dst v (scrub D s).s) t) (putO dst v (scrub D s).s)) x;rw[jb,jv n2];by_cases hx:dst=some x
  ·subst hx;have hdx:¬d=x:=fun e=>n1 (by rw[e])
   rw[if_neg hdx];show get (put x v _) x=get (put x v _) x;rw[jb,jb,if_pos rfl,if_pos rfl]
  ·rw[jv hx,jv hx,Jt,Jt,Jt];simp only[jb];by_cases hdx:d=x
   ·rw[if_pos hdx,if_pos hdx]
   ·rw[if_neg hdx,if_neg hdx]
def remL(L:Nat)(listed:Array Bool):List Nat:=(List.range L).filter fun j=>!listed.getD j false
structure At(E:Env)(GP:Ro→Prop)(c:Base)(ops:List Oper)(L p0 base:Nat)(listed:Array Bool)(s:St)(R:Ro)(G:List Res)(a:Act)(w:World):Prop where
 sz:listed.size=ops.length
 tl:∀j,L≤j→j<ops.length→listed.getD j false=decide (j<p0)
 cl:∀i,listed.getD i false=true→∀o,ops[i]? =some o→∀e∈edgesOf o,listed.getD e false=true
 fit:Fit c E.n R G s a w
 gp:GP R
 len:s.h.length=base+rsvAll ops
 free:∀i o,ops[i]? =some o→listed.getD i false=false→FreeR s.h (nidOf ops base i) (rsv o)
theorem zxH(hΓ:∀C∈E.Γ,SoundC E.P GP C)(hgl:∀R,GP R→GlobOK E.gl R)(hst:Stays GP){ops:List Oper}{T:Type}{r:T}{k:St→Option T}{Q:Exit→Act→World→Prop}{L base p0:Nat}(hS:StatOk E.n L ops)(hcm:c.m≤base)
  (hLlt:L<ops.length) (hp0:L≤p0) (hp1:p0≤L+1) (hT:∀i o,L≤i→ops[i]? =some o→o.guard=none∧(L<i→∀j,j<i→Anc ops i j))
  (hK:∀st' R' G' a' w',k st'=some r→Fit c E.n R' G' st' a' w'→GP R'→Q .normal a' w') {stn:St} (hk:yc E false ops (ops.drop p0) (nidOf ops base p0) stn k=some r)
  (hP:∀(listed:Array Bool),(∀j,L≤j→j<ops.length→listed.getD j false=decide (j<p0))→(∀i,listed.getD i false=true→∀o,ops[i]? =some o→∀e∈edgesOf o,listed.getD e false=true)→
   ∀i j oi oj,i<L→j<i→ops[i]? =some oi→ops[j]? =some oj→listed.getD i false=false→listed.getD j false=false→¬Anc ops i j→YW (fpW E ops stn (nidOf ops base j) oj) (fpW E ops stn (nidOf ops base i) oi)=true)
  (hsw:p0=L→∀(fuel:Nat)(listed:Array Bool)(s:St)(R:Ro)(G:List Res)(a:Act)(w:World)(o:Oper),At E GP c ops L p0 base listed s R G a w→remL L listed≠[]→(remL L listed).length+(ops.length-(L+1))≤fuel→ops[L]? =some o→
   (∀e∈edgesOf o,listed.getD e false=true)→(∀j,Anc ops L j→listed.getD j false=true)→RunS E ops base (remL L listed) s stn→wpOp E.P ops.toArray Q L (wpAny E.P .any ops.toArray Q fuel (listed.setIfInBounds L true)) a w):
  ∀(fuel:Nat)(listed:Array Bool)(s:St)(R:Ro)(G:List Res)(a:Act)(w:World),At E GP c ops L p0 base listed s R G a w→(remL L listed).length+(ops.length-p0)≤fuel→
   RunS E ops base (remL L listed) s stn→wpAny E.P .any ops.toArray Q fuel listed a w:=by
 have hA:∀(j k:Nat)(oj ok:Oper)(d:Nat),ops[j]? =some oj→ops[k]? =some ok→j≤k→k<L→ok.dst=some d→d∉oj.looksAt ops.toArray:=by
  intro j k oj ok d hj hk hjk hkM hd ht;rcases hS.look j oj d k hj ht (hS.lt k ok d hk hd).2 with h|h
  ·have:=h.lt hS.edge;omega
  ·omega
 have hE:∀(j k:Nat)(oj ok:Oper)(d:Nat),ops[j]? =some oj→ops[k]? =some ok→j≠k→oj.dst=some d→ok.dst≠some d:=by intro j k oj ok d hj hk hjk hd hd';have h1:=(hS.lt j oj d hj hd).2;have h2:=(hS.lt k ok d hk hd').2;rw[h1]at h2;exact hjk (Option.some.inj h2)
 intro fuel;have hnot:∀(listed:Array Bool),listed.size=ops.length→(∃j,j<ops.length∧listed.getD j false=false)→Region.ready .any ops.toArray listed=[]→False:=by
  intro listed hsz ⟨j0,hj0,hjf⟩ hr;have hall:∀j,j<ops.length→listed.getD j false=true:=by
   intro j;induction j using Nat.strongRecOn with
   |_ j ih=>
    intro hj;cases hb:listed.getD j false with
    |true=>rfl
    |false=>
     exfalso;have:j∈Region.ready .any ops.toArray listed:=by
      rw[mem_ready];refine⟨?_,ops[j],by simp[hj],fun e he hbind=>?_⟩
      ·have hlt:j<listed.size:=by omega
       simp[hlt]at hb⊢;exact hb
      ·have hlt:=hS.edge j ops[j] (by simp[hj]) e.on (by
        unfold edgesOf;rw[List.mem_filterMap];exact⟨e,by simpa using he,by simp[hbind]⟩)
       exact ih e.on hlt (by omega)
     rw[hr]at this;cases this
  rw[hall j0 hj0]at hjf;cases hjf
 have tail:∀(fuel:Nat)(listed:Array Bool)(s:St)(R:Ro)(G:List Res)(a:Act)(w:World),At E GP c ops L p0 base listed s R G a w→(ops.length-p0)≤fuel→
   remL L listed=[]→RunS E ops base (remL L listed) s stn→wpAny E.P .any ops.toArray Q fuel listed a w:=by
  intro fuel listed s R G a w I hfu hnil hR;rw[hnil]at hR;have F':Fit c E.n R G stn a w:=⟨by rw[←hR.2];exact I.fit.wrel,by rw[←hR.2];exact I.fit.since,fun t=>by rw[←hR.1 t,←hR.2];exact I.fit.slots t,I.fit.defers,I.fit.size⟩
  refine znt hΓ hgl hst hS hcm hT hK (ops.length-p0) p0 fuel listed stn R G a w (by omega) hp0 I.sz ?_ hfu F' I.gp (by rw[←hR.2];exact I.len) (fun i o hi ho=>by have hlt:=(List.getElem?_eq_some_iff.1 ho).1;rw[←hR.2];exact I.free i o ho (by rw[I.tl i (by omega) hlt];exact decide_eq_false (by omega))) hk
  ·intro j hj;by_cases hjL:j<L
   ·rw[decide_eq_true (by omega)];have:=List.filter_eq_nil_iff.1 hnil j (by simpa using hjL);simpa using this
   ·exact I.tl j (by omega) hj
 induction fuel with
 |zero=>
  intro listed s R G a w I hfu hR;have hz:(remL L listed).length=0:=by omega
  exact tail 0 listed s R G a w I (by omega) (List.length_eq_zero_iff.1 hz) hR
 |succ fuel ih=>
  intro listed s R G a w I hfu hR;by_cases hnil:remL L listed=[]
  ·exact tail (fuel+1) listed s R G a w I (by omega) hnil hR
  refine⟨fun hr=>(hnot listed I.sz ?_ hr).elim,fun i hi=>?_⟩
  ·obtain⟨j,hj⟩:=List.exists_mem_of_ne_nil _ hnil;have h1:=List.mem_filter.1 hj;have h2:j<L:=by simpa using h1.1
   exact⟨j,by omega,by simpa using h1.2⟩
  rw[mem_ready]at hi;obtain⟨hun,o,ho,hall⟩:=hi;have ho':ops[i]? =some o:=by simpa using ho
  have hilt:i<ops.length:=(List.getElem?_eq_some_iff.1 ho').1;have hil:i<listed.size:=by rw[I.sz];exact hilt
  have hSi:listed.getD i false=false:=by simp[hil]at hun⊢;exact hun
  have hdir:∀e∈edgesOf o,listed.getD e false=true:=by
   intro e he;unfold edgesOf at he;rw[List.mem_filterMap]at he;obtain⟨x,hx,hxe⟩:=he;split at hxe
   ·rename_i hb;cases hxe;exact hall x (by simpa using hx) hb
   ·cases hxe
  have hanc:∀k j,Anc ops k j→listed.getD k false=true→listed.getD j false=true:=by
   intro k j h;induction h with
   |one h he=>intro hk;exact I.cl _ hk _ h _ he
   |more h he _ ih=>intro hk;exact ih (I.cl _ hk _ h _ he)
  have hanci:∀j,Anc ops i j→listed.getD j false=true:=by
   intro j h;cases h with
   |one h he=>rw[ho']at h;cases h;exact hdir _ he
   |more h he h'=>rw[ho']at h;cases h;exact hanc _ _ h' (hdir _ he)
  by_cases hiL:i=L
  ·subst hiL;have hp:p0=i:=by have:=I.tl i (Nat.le_refl _) hilt;rw[hSi]at this;have:=of_decide_eq_false this.symm;omega
   exact hsw hp fuel listed s R G a w o I hnil (by rw[hp]at hfu;omega) ho' hdir hanci hR
  have hset:∀j,(listed.setIfInBounds i true).getD j false=(listed.getD j false||Nat.beq j i):=by
   intro j;by_cases hji:j=i
   ·subst hji;simp[hil]
   ·have hne:¬i=j:=fun h=>hji h.symm
    have hb:Nat.beq j i=false:=by
     cases hb:Nat.beq j i with
     |false=>rfl
     |true=>exact absurd (Nat.eq_of_beq_eq_true hb) hji
    simp[hb,Array.getElem?_setIfInBounds_ne hne]
  have hiL':i<L:=by
   rcases Nat.lt_or_ge i L with h|h
   ·exact h
   ·exfalso;refine hnil (List.filter_eq_nil_iff.2 fun j hj=>?_);have hjL:j<L:=by simpa using hj
    simp[hanci j ((hT i o h ho').2 (by omega) j (by omega))]
  obtain⟨l1,l2,g1,g2,g3⟩:=qe (p:=fun j=>!listed.getD j false) (q:=fun j=>!(listed.setIfInBounds i true).getD j false) (l:=List.range L) List.pairwise_lt_range (by simpa using hiL') (by simp only[hSi];rfl)
   (fun j=>by rw[hset];cases listed.getD j false<;>cases Nat.beq j i<;>rfl)
  have hrem:remL L listed=l1++i::l2:=g1;have hrem':remL L (listed.setIfInBounds i true)=l1++l2:=g2;have hunl:∀j∈l1++i::l2,listed.getD j false=false:=by intro j hj;rw[←hrem]at hj;have:=(List.mem_filter.1 hj).2;simpa using this
  rw[hrem]at hR;obtain⟨s',hstep,hR'⟩:=zw4 ho' hA hE l1 s (fun k hk=>by rw[←hrem]at hk;have:=(List.mem_filter.1 hk).1;simpa using this) (by rw[←hrem];exact List.Pairwise.filter _ List.pairwise_lt_range)
   (fun k hk ok d hok hd ht=>by
    rcases hS.look i o d k ho' ht (hS.lt k ok d hok hd).2 with h|h
    ·have:=hanci k h;rw[hunl k hk]at this;cases this
    ·rw[←hrem]at hk;have:=(List.mem_filter.1 hk).1;have:k<L:=by simpa using this
     omega)
   (fun j hj oj hoj=>hP listed I.tl I.cl i j o oj hiL' (g3 j hj) ho' hoj hSi (hunl j (List.mem_append_left _ hj)) (fun hanc=>by have:=hanci j hanc;rw[hunl j (List.mem_append_left _ hj)]at this;cases this)) (fun hb hr x hx=>I.free i o ho' hSi x (zcr hb hr x hx).1 (zcr hb hr x hx).2) hR
  obtain⟨o2,v,u,e1,e2,e3⟩:=hstep;rw[ho']at e1;cases e1;have next:∀(R':Ro)(G':List Res)(a':Act)(w':World),Fit c E.n R' G' s' a' w'→GP R'→ZO (nidOf ops base i) (rsv o) s.h s'.h→s'.h.length=s.h.length→
    wpAny E.P .any ops.toArray Q fuel (listed.setIfInBounds i true) a' w':=by
   intro R' G' a' w' F' hGP' hno hlen';refine ih (listed.setIfInBounds i true) s' R' G' a' w' ⟨by simpa using I.sz,fun j hj hj2=>?_,?_,F',hGP',by rw[hlen'];exact I.len,?_⟩ (by rw[hrem'];rw[hrem]at hfu;simp at hfu⊢;omega) (by rw[hrem'];exact hR')
   ·rw[hset,I.tl j hj hj2];cases hb:Nat.beq j i with
    |false=>rw[Bool.or_false]
    |true=>exact absurd (Nat.eq_of_beq_eq_true hb) (by omega)
   ·intro j hj oj hoj e he;rw[hset]at hj⊢;simp only[Bool.or_eq_true]at hj⊢;rcases hj with hj|hj
    ·exact .inl (I.cl j hj oj hoj e he)
    ·have:=Nat.eq_of_beq_eq_true hj;subst this;rw[ho']at hoj;cases hoj;exact .inl (hdir e he)
   ·intro j oj hoj hj x hx1 hx2;rw[hset]at hj;simp only[Bool.or_eq_false_iff]at hj;have hne:j≠i:=fun e=>by rw[e]at hj;simp at hj
    refine hno x (fun hh=>?_) (I.free j oj hoj hj.1 x hx1 hx2);rcases Nat.lt_or_gt_of_ne hne with hlt|hlt
    ·have:=jl (base:=base) hoj ho' hlt;omega
    ·have:=jl (base:=base) ho' hoj hlt;omega
  unfold wpOp;have hoA:ops.toArray[i]? =some o:=by simpa using ho'
  simp only[hoA];have hdst:VM E.n o.dst=true:=by
   cases hd:o.dst with
   |none=>rfl
   |some d=>exact (hS.lt i o d ho' hd).1
  rcases e3 with⟨hw,hloc⟩|⟨hw,rfl,rfl⟩
  ·rw[jB I.fit hS hw,if_pos rfl];have heff:=hloc.eff (AV×St) (fun v s=>some (v,s));refine .inl (Oper.wp_mono ?_ (Z9 hΓ hgl I.fit I.gp (show c.m≤nidOf ops base i by unfold nidOf;omega) (I.free i o ho' hSi) (by rw[I.len];exact yT ho') heff));rintro a' w' ⟨v',st',R',G',V,h1,rfl,h2,h3,h4,h5,h6⟩;simp only[Option.some.injEq,Prod.mk.injEq]at h1;obtain⟨rfl,rfl⟩:=h1;have F2:=h2.put hdst h3;exact next R' G' _ w' (by rw[e2];exact F2) (hst R R' h6 I.gp) (by rw[e2];exact h4) (by rw[e2];exact h5)
  ·rw[jB I.fit hS hw];simp only[Bool.false_eq_true,if_false];have F2:=I.fit.put (v:=.tup []) (V:=undef) hdst ⟨[],rfl,rfl⟩;exact next R G _ w (by rw[e2];exact F2) I.gp (by rw[e2];exact fun _ _ h=>h) (by rw[e2];rfl)
theorem zaq(hm:E.P.follows .mixedOrders=true)(hΓ:∀C∈E.Γ,SoundC E.P GP C)(hgl:∀R,GP R→GlobOK E.gl R)(hst:Stays GP){ops:List Oper}{T:Type}{r:T}{k:St→Option T}{Q:Exit→Act→World→Prop}{st:St}{R:Ro}{G:List Res}
  {a:Act} {w:World} (F:Fit c E.n R G st a w) (hGP:GP R) {m L:Nat} (hL:L=ops.length-m) (hLlt:L<ops.length) (hT:∀i o,L≤i→ops[i]? =some o→o.guard=none∧(L<i→∀j,j<i→Anc ops i j))
  (hF:∀o,ops[L]? =some o→∀j,j<L→Anc ops L j∨(qb o.op=true∧∃oj t d,ops[j]? =some oj∧Fl L ops oj t d))
  {id:Nat} {alt:Option T} (halt:alt=some r→(Code.region id ops.toArray true).wp E.P Q a w) (h:Yf E m ops st alt k=some r) (hK:∀st' R' G' a' w',k st'=some r→Fit c E.n R' G' st' a' w'→GP R'→Q .normal a' w'):
  (Code.region id ops.toArray true).wp E.P Q a w:=by
 unfold Yf at h;split at h
 ·rename_i hstat;have hS:=zko hstat;rw[←hL]at h hS;obtain⟨G0,F0,hfree,hlen⟩:=F.wide (rsvAll ops);have hrun:=zkG (E:=E) (all:=ops) (base:=st.h.length) (ops.take L) 0 ⟨st.s,wide st.h (rsvAll ops)⟩ ⟨ops.drop L,by rw[List.drop_zero];exact (List.take_append_drop L ops).symm⟩ (by simpa[nidOf,rsvAll]using h);rw[List.length_take,Nat.min_eq_left (by omega)]at hrun;obtain⟨stn,hk,hrun⟩:=hrun;split at hk
  ·rename_i hpairs;have hcm:c.m≤st.h.length:=F.since.many;refine wp_region_any hm ?_;obtain⟨oL,hoL⟩:∃o,ops[L]? =some o:=⟨ops[L],List.getElem?_eq_getElem hLlt⟩
   have hE:∀(j k:Nat)(oj ok:Oper)(d:Nat),ops[j]? =some oj→ops[k]? =some ok→j≠k→oj.dst=some d→ok.dst≠some d:=by intro j k oj ok d hj hk hjk hd hd';have h1:=(hS.lt j oj d hj hd).2;have h2:=(hS.lt k ok d hk hd').2;rw[h1]at h2;exact hjk (Option.some.inj h2)
   refine zxH (p0:=L) hΓ hgl hst hS hcm hLlt (Nat.le_refl _) (by omega) hT hK hk (fun listed _ _ i j oi oj hi hji hoi hoj _ _ hna=>zcZ hpairs hoi hoj hji hna) ?_ ops.toArray.size _ ⟨st.s,wide st.h (rsvAll ops)⟩ R G0 a _
    ⟨by simp,fun j hj hj2=>?_,?_,F0.keep (Keeps.drawn w _),hGP,hlen,fun i o hi _ x hx1 hx2=>hfree x (by unfold nidOf at hx1;omega)⟩ ?_ ?_
   ·
     intro _ fuel listed s R G a w o I hne hfu ho hdir hanc hR;rw[hoL]at ho;cases ho;have hfl:∀j∈remL L listed,∃oj t d,ops[j]? =some oj∧Fl L ops oj t d∧oL.dst≠some d∧oL.dst≠some t:=by
      intro j hj;have h1:=List.mem_filter.1 hj;have h2:j<L:=by simpa using h1.1
      have h3:listed.getD j false=false:=by simpa using h1.2
      rcases hF oL hoL j h2 with h|⟨_,oj,t,d,e1,e2⟩
      ·rw[hanc j h]at h3;cases h3
      ·refine⟨oj,t,d,e1,e2,fun hd=>hE L j oL oj d hoL e1 (by omega) hd e2.dst,fun ht=>?_⟩;have:=e2.src L (hS.lt L oL t hoL ht).2;omega
     have happ:(remL L listed)≠[]→qb oL.op=true:=by
      intro hne;obtain⟨j,hj⟩:=List.exists_mem_of_ne_nil _ hne;have h1:=List.mem_filter.1 hj;have h2:j<L:=by simpa using h1.1
      have h3:listed.getD j false=false:=by simpa using h1.2
      rcases hF oL hoL j h2 with h|⟨h,_⟩
      ·rw[hanc j h]at h3;cases h3
      ·exact h
     have hdl:ops.drop L=oL::ops.drop (L+1):=by rw[List.drop_eq_getElem_cons hLlt];congr 1;exact Option.some.inj ((List.getElem?_eq_getElem hLlt).symm.trans hoL)
     have hnid:nidOf ops st.h.length L+rsv oL=nidOf ops st.h.length (L+1):=by unfold nidOf;have:=yk hoL;omega
     have hdst:VM E.n oL.dst=true:=by
      cases hd:oL.dst with
      |none=>rfl
      |some d=>exact (hS.lt L oL d hoL hd).1
     have hg:=(hT L oL (Nat.le_refl _) hoL).1;have hk2:=hk;rw[hdl]at hk2;simp only[yc,hdst,hg]at hk2;have hil:L<listed.size:=by rw[I.sz];exact hLlt
     have hLf:listed.getD L false=false:=by rw[I.tl L (Nat.le_refl _) hLlt];exact decide_eq_false (by omega)
     have hset:∀j,(listed.setIfInBounds L true).getD j false=(listed.getD j false||Nat.beq j L):=by
      intro j;by_cases hji:j=L
      ·subst hji;simp[hil]
      ·have hne:¬L=j:=fun h=>hji h.symm
       have hb:Nat.beq j L=false:=by
        cases hb:Nat.beq j L with
        |false=>rfl
        |true=>exact absurd (Nat.eq_of_beq_eq_true hb) hji
       simp[hb,Array.getElem?_setIfInBounds_ne hne]
     have hremS:remL L (listed.setIfInBounds L true)=remL L listed:=by
      unfold remL;refine List.filter_congr fun j hj=>?_
      have hj:j<L:=by simpa using hj
      rw[hset];cases hb:Nat.beq j L with
      |false=>rw[Bool.or_false]
      |true=>exact absurd (Nat.eq_of_beq_eq_true hb) (by omega)
     have hlook:∀x∈oL.op.operands,opnd E.gl s.s x=opnd E.gl stn.s x:=by
      refine jO (all:=ops) (fun t ht=>(hR.slots t fun k hk ok hok hd=>?_).symm);have h1:=List.mem_filter.1 hk;have h2:k<L:=by simpa using h1.1
      have h3:listed.getD k false=false:=by simpa using h1.2
      rcases hS.look L oL t k hoL ht (hS.lt k ok t hok hd).2 with h|h
      ·rw[hanc k h]at h3;cases h3
      ·omega
     have hheap:∀(l:List Nat)(s stn:St),(∀j∈l,∃oj t d,ops[j]? =some oj∧Fl L ops oj t d∧oL.dst≠some d∧oL.dst≠some t)→RunS E ops st.h.length l s stn→stn.h=s.h:=by
      intro l;induction l with
      |nil=>intro s stn _ h;exact h.2.symm
      |cons j l ih=>intro s stn hl ⟨s1,h1,h2⟩;obtain⟨oj,t,d,e1,e2,_⟩:=hl j List.mem_cons_self;have e3:=zdr e1 e2 h1;have e4:=ih s1 stn (fun j hj=>hl j (List.mem_cons_of_mem _ hj)) h2;rw[e3]at e4;exact e4
     have eff:∃v D hh,yc E false ops (ops.drop (L+1)) (nidOf ops st.h.length (L+1)) ⟨putO oL.dst v (scrub D stn).s,hh⟩ k=some r∧opK E false (nidOf ops st.h.length L) oL.op s (fun v st'=>some (v,st'))=some (v,⟨(scrub D s).s,hh⟩)∧
       RunS E ops st.h.length (remL L listed) ⟨putO oL.dst v (scrub D s).s,hh⟩ ⟨putO oL.dst v (scrub D stn).s,hh⟩:=by
      obtain⟨v,D,hh,h1,h2⟩:=zdV (happ hne) hk2;refine⟨v,D,hh,?_,h2 s (hheap _ _ _ hfl hR).symm hlook _ _,ze5 hfl hR⟩;rw[←hnid];exact h1
     obtain⟨v,D,hh,hk3,hop,hR3⟩:=eff;unfold wpOp;have hoA:ops.toArray[L]? =some oL:=by simpa using hoL
     simp only[hoA];have hwant:Region.wanted oL (yielded ops.toArray a.tmps)=true:=by unfold Region.wanted;rw[hg]
     rw[hwant,if_pos rfl];refine .inl (Oper.wp_mono ?_ (Z9 hΓ hgl I.fit I.gp (show c.m≤nidOf ops st.h.length L by unfold nidOf;omega) (I.free L oL hoL hLf) (by rw[I.len];exact yT hoL) hop));rintro a' w' ⟨v',st',R',G',V,h1,rfl,h2,h3,h4,h5,h6⟩;simp only[Option.some.injEq,Prod.mk.injEq]at h1;rw[h1.2]at h2 h4 h5;rw[h1.1,h1.2]at h3;refine zxH (p0:=L+1) hΓ hgl hst hS hcm hLlt (by omega) (Nat.le_refl _) hT hK hk3 (fun listed' hl1 hl2 i j oi oj hi hji hoi hoj hui huj _=>?_) (fun h=>by omega) fuel (listed.setIfInBounds L true) ⟨putO oL.dst v (scrub D s).s,hh⟩ R' G' _ w'
      ⟨by simpa using I.sz,fun j hj hj2=>?_,fun j hj oj hoj e he=>?_,h2.put hdst h3,hst R R' h6 I.gp,h5.trans I.len,fun j oj hoj hj x hx1 hx2=>?_⟩ (by rw[hremS];exact hfu) (by rw[hremS];exact hR3)
     ·
       have hflo:∀q oq,q<L→ops[q]? =some oq→listed'.getD q false=false→∃t d,Fl L ops oq t d:=by
        intro q oq hq hoq huq;rcases hF oL hoL q hq with h|⟨_,oj,t,d,e1,e2⟩
        ·exfalso;have hLl:listed'.getD L false=true:=by rw[hl1 L (Nat.le_refl _) hLlt];exact decide_eq_true (by omega)
         have hcl2:∀k j,Anc ops k j→listed'.getD k false=true→listed'.getD j false=true:=by
          intro k j h;induction h with
          |one h he=>intro hk;exact hl2 _ hk _ h _ he
          |more h he _ ih=>intro hk;exact ih (hl2 _ hk _ h _ he)
         rw[hcl2 L q h hLl]at huq;cases huq
        ·rw[hoq]at e1;cases e1;exact⟨t,d,e2⟩
       obtain⟨t1,d1,f1⟩:=hflo i oi hi hoi hui;obtain⟨t2,d2,f2⟩:=hflo j oj (by omega) hoj huj;have hfp:∀{o:Oper}{t d n:Nat}{S:St},Fl L ops o t d→fpW E ops S n o=⟨[],[],false⟩:=by intro o t d n S hf;rw[Ju (by unfold zu;rw[hf.guard]),hf.op];rfl
       rw[hfp f1,hfp f2];rfl
     ·rw[hset,I.tl j hj hj2];by_cases hjL:j=L
      ·subst hjL;rw[Nat.beq_refl,Bool.or_true,decide_eq_true (by omega)]
      ·have hb:Nat.beq j L=false:=by
        cases hb:Nat.beq j L with
        |false=>rfl
        |true=>exact absurd (Nat.eq_of_beq_eq_true hb) hjL
       rw[hb,Bool.or_false,decide_eq_decide];omega
     ·rw[hset]at hj⊢;simp only[Bool.or_eq_true]at hj⊢;rcases hj with hj|hj
      ·exact .inl (I.cl j hj oj hoj e he)
      ·have:=Nat.eq_of_beq_eq_true hj;subst this;rw[hoL]at hoj;cases hoj;exact .inl (hdir e he)
     ·rw[hset]at hj;simp only[Bool.or_eq_false_iff]at hj;have hne:j≠L:=fun e=>by rw[e]at hj;simp at hj
      refine h4 x (fun hh=>?_) (I.free j oj hoj hj.1 x hx1 hx2);rcases Nat.lt_or_gt_of_ne hne with hlt|hlt
      ·have:=jl (base:=st.h.length) hoj hoL hlt;omega
      ·have:=jl (base:=st.h.length) hoL hoj hlt;omega
   ·simp[hj2];omega
   ·intro i hi;exfalso;by_cases hlt:i<ops.length
    ·simp[hlt]at hi
    ·simp[hlt]at hi
   ·have h1:=List.length_filter_le (fun j=>!(Array.replicate ops.toArray.size false).getD j false) (List.range L);have h2:(List.range L).length+(ops.length-L)≤ops.toArray.size:=by simp;omega
    exact Nat.le_trans (Nat.add_le_add_right h1 _) h2
   ·have:remL L (Array.replicate ops.toArray.size false)=List.range' 0 L:=by
     show(List.range L).filter _=_;rw[List.filter_eq_self.2,List.range_eq_range'];intro j hj;have:j<L:=by simpa using hj
     simp[show j<ops.length by omega]
    rw[this];exact hrun
  ·exact halt hk
 ·exact halt h
theorem zdv(hm:E.P.follows .mixedOrders=true)(hΓ:∀C∈E.Γ,SoundC E.P GP C)(hgl:∀R,GP R→GlobOK E.gl R)(hst:Stays GP){ops:List Oper}{T:Type}{r:T}{k:St→Option T}{Q:Exit→Act→World→Prop}{st:St}{R:Ro}{G:List Res}
  {a:Act} {w:World} (F:Fit c E.n R G st a w) (hGP:GP R) {m:Nat} (hm1:1≤m) (ht:Xw m ops=true) {id:Nat} {alt:Option T} (halt:alt=some r→(Code.region id ops.toArray true).wp E.P Q a w) (h:Yf E m ops st alt k=some r) (hK:∀st' R' G' a' w',k st'=some r→Fit c E.n R' G' st' a' w'→GP R'→Q .normal a' w'):
  (Code.region id ops.toArray true).wp E.P Q a w:=by
 obtain⟨hmle,hT⟩:=zmX ht;exact zaq hm hΓ hgl hst F hGP rfl (by omega) (fun i o hi ho=>⟨(hT i o hi ho).1,fun _=>(hT i o hi ho).2⟩) (fun o ho j hj=>.inl ((hT _ o (Nat.le_refl _) ho).2 j hj)) halt h hK
theorem zn5{L:Nat}{ops:List Oper}(h:zh8 L ops=true):L<ops.length∧(∀i o,L≤i→ops[i]? =some o→o.guard=none∧(L<i→∀j,j<i→Anc ops i j))∧
  ∀o,ops[L]? =some o→∀j,j<L→Anc ops L j∨(qb o.op=true∧∃oj t d,ops[j]? =some oj∧Fl L ops oj t d):=by
 unfold zh8 at h;simp only[Bool.and_eq_true]at h;obtain⟨h1,h2⟩:=h;split at h1
 ·rename_i oL lL hoL hBL;simp only[Bool.and_eq_true]at h1;obtain⟨ha,hgL,hall⟩:=h1;have hlt:=(List.getElem?_eq_some_iff.1 hoL).1;have hg0:∀{o:Oper},(match o.guard with
   |none=>true
   |some _=>false)=true→o.guard=none:=by
   intro o h;split at h
   ·assumption
   ·cases h
  refine⟨hlt,fun i o hi ho=>?_,fun o ho j hj=>?_⟩
  ·by_cases hiL:i=L
   ·subst hiL;rw[hoL]at ho;cases ho;exact⟨hg0 hgL,fun h=>by omega⟩
   ·have hil:=(List.getElem?_eq_some_iff.1 ho).1;have:=List.all_eq_true.1 h2 (i-(L+1)) (by rw[List.mem_range];omega);rw[show L+1+(i-(L+1))=i by omega,ho]at this;split at this
    ·rename_i o' l h3 hB;cases h3;rw[Bool.and_eq_true]at this;refine⟨hg0 this.1,fun _ j hj=>?_⟩;have h5:=List.all_eq_true.1 this.2 j (by simpa using hj);refine zI ?_;rw[hB];exact zy.1 h5
    ·cases this
  ·rw[hoL]at ho;cases ho;have h5:=List.all_eq_true.1 hall j (by simpa using hj);rw[Bool.or_eq_true]at h5;rcases h5 with h5|h5
   ·left;refine zI ?_;rw[hBL];exact zy.1 h5
   ·right;split at h5
    ·rename_i oj hoj;obtain⟨t,d,hf⟩:=zkD h5;exact⟨ha,oj,t,d,hoj,hf⟩
    ·cases h5
 ·cases h1
theorem zkJ(hm:E.P.follows .mixedOrders=true)(hΓ:∀C∈E.Γ,SoundC E.P GP C)(hgl:∀R,GP R→GlobOK E.gl R)(hst:Stays GP){ops:List Oper}{T:Type}{r:T}{k:St→Option T}{Q:Exit→Act→World→Prop}{st:St}{R:Ro}{G:List Res}
  {a:Act} {w:World} (F:Fit c E.n R G st a w) (hGP:GP R) {L:Nat} (ht:zh8 L ops=true) {id:Nat} {alt:Option T} (halt:alt=some r→(Code.region id ops.toArray true).wp E.P Q a w) (h:Yf E (ops.length-L) ops st alt k=some r) (hK:∀st' R' G' a' w',k st'=some r→Fit c E.n R' G' st' a' w'→GP R'→Q .normal a' w'):
  (Code.region id ops.toArray true).wp E.P Q a w:=by
 obtain⟨hlt,hT,hF⟩:=zn5 ht;exact zaq hm hΓ hgl hst F hGP (L:=L) (by omega) hlt hT hF halt h hK
theorem XN(hm:E.P.follows .mixedOrders=true)(hΓ:∀C∈E.Γ,SoundC E.P GP C)(hgl:∀R,GP R→GlobOK E.gl R)(hst:Stays GP){ops:List Oper}{T:Type}{r:T}{k:St→Option T}{Q:Exit→Act→World→Prop}{st:St}{R:Ro}{G:List Res}
  {a:Act} {w:World} (F:Fit c E.n R G st a w) (hGP:GP R) (h:VJ E ops st k=some r) (hK:∀st' R' G' a' w',k st'=some r→Fit c E.n R' G' st' a' w'→GP R'→Q .normal a' w') {id:Nat}:
  (Code.region id ops.toArray true).wp E.P Q a w:=by
 have halt:ZY E ops st k=some r→(Code.region id ops.toArray true).wp E.P Q a w:=fun h=>zkI hm hΓ hgl hst F hGP h hK
 unfold VJ at h;split at h
 ·rename_i ht;exact zkJ hm hΓ hgl hst F hGP ht halt h hK
 ·split at h
  ·rename_i ht;rw[Bool.and_eq_true]at ht;exact zdv hm hΓ hgl hst F hGP (by decide) ht.1 halt h hK
  ·split at h
   ·rename_i ht;rw[Bool.and_eq_true]at ht;exact zdv hm hΓ hgl hst F hGP (by decide) ht.1 halt h hK
   ·split at h
    ·exact halt h
    ·exact zny hm hΓ hgl hst F hGP halt h hK
end
end Go.Am
