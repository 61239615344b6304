/-
  A part of the proof of the laws on moves.
-/
import Derived.Test.YtpghlpmkljkakaaGreatDoorAm17
namespace Go.Am
open Go Go.RowKit Go.Vc
section
variable {E : Env} {all : List Oper} {base : Nat}
theorem zm0{T:Type}{k:St→Option T}{r:T}:∀(ops:List Oper)(i:Nat)(st:St),(∃tl,all.drop i=ops++tl)→yJ E true all ops (nidOf all base i) st k=some r→
  ∃stn,k stn=some r∧RunS E all base (List.range' i ops.length) st stn:=by
 intro ops;induction ops with
 |nil=>intro i st _ h;exact⟨st,h,Eqv.refl _⟩
 |cons o rest ih=>
  intro i st hdrop h;obtain⟨tl,hdrop⟩:=hdrop;have hi:all[i]? =some o:=by have:=congrArg (·[0]?) hdrop;simpa[List.getElem?_drop]using this
  have hrest:∃tl,all.drop (i+1)=rest++tl:=⟨tl,by have:=congrArg (List.drop 1) hdrop;simpa[List.drop_drop,Nat.add_comm]using this⟩
  have hnid:nidOf all base i+rsv o=nidOf all base (i+1):=by unfold nidOf;have:=qa hi;omega
  rw[List.length_cons,List.range'_succ];simp only[yJ,hnid]at h;split at h
  ·cases h
  ·have go:∀(st0:St),Eqv st0 st→zT all o st=some true→opK E true (nidOf all base i) o.op st0 (fun v st'=>yJ E true all rest (nidOf all base (i+1)) ⟨putO o.dst v st'.s,st'.h⟩ k)=some r→
     ∃stn,k stn=some r∧RunS E all base (i::List.range' (i+1) rest.length) st stn:=by
    intro st0 e0 hw h0;obtain⟨v,u,h1,h2,h3,h4⟩:=zn3 h0;obtain⟨stn,h5,h6⟩:=ih (i+1) _ hrest h1;have hstep:StepS E all base i st0 ⟨putO o.dst v st0.s,j0 st0.h u⟩:=⟨o,v,u,hi,rfl,.inl ⟨(jg (fun t _=>e0.1 t)).trans hw,h2,h3,h4⟩⟩
    obtain⟨st2,h7,h8⟩:=hstep.eqv e0;exact⟨stn,h5,st2,h7,h6.eqv h8⟩
   have no:∀(st0:St),Eqv st0 st→zT all o st=some false→yJ E true all rest (nidOf all base (i+1)) ⟨putO o.dst (.tup []) st0.s,st0.h⟩ k=some r→
     ∃stn,k stn=some r∧RunS E all base (i::List.range' (i+1) rest.length) st stn:=by
    intro st0 e0 hw h0;obtain⟨stn,h5,h6⟩:=ih (i+1) _ hrest h0;have hstep:StepS E all base i st0 ⟨putO o.dst (.tup []) st0.s,j0 st0.h []⟩:=⟨o,.tup [],[],hi,rfl,.inr ⟨(jg (fun t _=>e0.1 t)).trans hw,rfl,rfl⟩⟩
    obtain⟨st2,h7,h8⟩:=hstep.eqv e0;exact⟨stn,h5,st2,h7,h6.eqv h8⟩
   split at h
   ·rename_i hg;exact go st (Eqv.refl _) (by unfold zT;rw[hg]) h
   ·rename_i g want hg;split at h
    ·rename_i t ht;split at h
     ·rename_i b hlt hb;have hw:zT all o st=some (b==want):=by unfold zT;simp only[hg,ht,hb]
      have e0:Eqv ⟨put t (.bool b) st.s,st.h⟩ st:=by
       refine⟨fun x=>?_,rfl⟩;show get (put t (.bool b) st.s) x=get st.s x;rw[JU];split
       ·rename_i e;subst e;exact hb.symm
       ·rfl
      cases b<;>cases want<;>simp only[cond_true,cond_false]at h
      ·exact go _ e0 hw h
      ·exact no _ e0 hw h
      ·exact no _ e0 hw h
      ·exact go _ e0 hw h
     ·rename_i hlt hb;exact no st (Eqv.refl _) (by unfold zT;simp only[hg,ht,hb]) h
     ·cases h
    ·cases h
theorem zoT{m:Nat}{ops:List Oper}(h:zd2 m ops=true):m≤ops.length∧∀i o,ops.length-m≤i→ops[i]? =some o→o.guard=none∧∀j,j<i→Anc ops i j:=by
 unfold zd2 at h;simp only[Bool.and_eq_true]at h;obtain⟨h1,h2⟩:=h;have h1:=Nat.le_of_ble_eq_true h1;refine⟨h1,fun i o hi ho=>?_⟩;have hlt:i<ops.length:=(List.getElem?_eq_some_iff.1 ho).1;have:=List.all_eq_true.1 h2 (i-(ops.length-m)) (by rw[List.mem_range];omega);rw[show ops.length-m+(i-(ops.length-m))=i by omega,ho]at this;split at this
 ·rename_i o' l h3 hB;cases h3;rw[Bool.and_eq_true]at this;refine⟨?_,fun j hj=>?_⟩
  ·have h4:=this.1;split at h4
   ·assumption
   ·cases h4
  ·have h5:=List.all_eq_true.1 this.2 j (by simpa using hj);refine Zu ?_;rw[hB];exact j4.1 h5
 ·cases this
variable {GP : Ro → Prop} {c : Base}
theorem zpE(hΓ:∀C∈E.Γ,SoundC E.P GP C)(hgl:∀R,GP R→GlobOK E.gl R)(hst:Stays GP){ops:List Oper}{T:Type}{r:T}{k:St→Option T}{Q:Exit→Act→World→Prop}{L base:Nat}(hS:StatOk E.n L ops)(hcm:c.m≤base)
  (hT:∀i o,L≤i→ops[i]? =some o→o.guard=none∧∀j,j<i→Anc ops i j) (hK:∀st' R' G' a' w',k st'=some r→Fit c E.n R' G' st' a' w'→GP R'→Q .normal a' w'):
  ∀(m p fuel:Nat)(listed:Array Bool)(s:St)(R:Ro)(G:List Res)(a:Act)(w:World),p+m=ops.length→L≤p→listed.size=ops.length→(∀j,j<ops.length→listed.getD j false=decide (j<p))→m≤fuel→
   Fit c E.n R G s a w→GP R→s.h.length=base+zQ ops→(∀i o,p≤i→ops[i]? =some o→zfM s.h (nidOf ops base i) (rsv o))→yJ E false ops (ops.drop p) (nidOf ops base p) s k=some r→wpAny E.P .any ops.toArray Q fuel listed a w:=by
 intro m;induction m with
 |zero=>
  intro p fuel listed s R G a w hp _ hsz hl _ F hGP _ _ h;rw[List.drop_of_length_le (by omega)]at h;have hQ:=hK _ R G a w h F hGP;have hrdy:Region.ready .any ops.toArray listed=[]:=by
   rcases hc:Region.ready .any ops.toArray listed with _|⟨j,r⟩
   ·rfl
   ·exfalso;have hj:j∈Region.ready .any ops.toArray listed:=by rw[hc];simp
    rw[mem_ready]at hj;obtain⟨hun,o',ho',_⟩:=hj;have hjlt:j<ops.length:=(List.getElem?_eq_some_iff.1 (show ops[j]? =some o' by simpa using ho')).1;have:=hl j hjlt;have hjl:j<listed.size:=by omega
    have hSj:listed.getD j false=false:=by simp[hjl]at hun⊢;exact hun
    rw[this,decide_eq_true (by omega)]at hSj;cases hSj
  cases fuel with
  |zero=>exact⟨hrdy,hQ⟩
  |succ fuel=>exact⟨fun _=>hQ,fun j hj=>by rw[hrdy]at hj;cases hj⟩
 |succ m ih=>
  intro p fuel listed s R G a w hp hLp hsz hl hfu F hGP hlen hfr h;obtain⟨f,rfl⟩:∃f,fuel=f+1:=⟨fuel-1,by omega⟩
  have hplt:p<ops.length:=by omega
  obtain⟨o,ho⟩:∃o,ops[p]? =some o:=⟨ops[p],List.getElem?_eq_getElem hplt⟩
  obtain⟨hg,hTp⟩:=hT p o hLp ho;have hdp:ops.drop p=o::ops.drop (p+1):=by rw[List.drop_eq_getElem_cons hplt];congr 1;exact Option.some.inj ((List.getElem?_eq_getElem hplt).symm.trans ho)
  have hnid:nidOf ops base p+rsv o=nidOf ops base (p+1):=by unfold nidOf;have:=qa ho;omega
  have hlp:listed.getD p false=false:=by rw[hl p hplt];exact decide_eq_false (by omega)
  have hdst:zlh E.n o.dst=true:=by
   cases hd:o.dst with
   |none=>rfl
   |some d=>exact (hS.lt p o d ho hd).1
  rw[hdp]at h;simp only[yJ,hnid,hdst,hg]at h;have hpr:p∈Region.ready .any ops.toArray listed:=by
   rw[mem_ready];refine⟨?_,o,by simpa using ho,fun e he hbind=>?_⟩
   ·have hlt:p<listed.size:=by omega
    simp[hlt]at hlp⊢;exact hlp
   ·have hlt:=hS.edge p o ho e.on (by
     unfold edgesOf;rw[List.mem_filterMap];exact⟨e,by simpa using he,by simp[hbind]⟩)
    rw[hl e.on (by omega)];exact decide_eq_true hlt
  refine⟨(fun hr=>by rw[hr]at hpr;cases hpr),fun i hi=>?_⟩;have hip:i=p:=by
   rw[mem_ready]at hi;obtain⟨hun,oi,hoi,hall⟩:=hi;have hoi':ops[i]? =some oi:=by simpa using hoi
   have hilt:i<ops.length:=(List.getElem?_eq_some_iff.1 hoi').1;have hil:i<listed.size:=by omega
   have hSi:listed.getD i false=false:=by simp[hil]at hun⊢;exact hun
   rw[hl i hilt]at hSi;have hpi:p≤i:=by have:=of_decide_eq_false hSi;omega
   by_cases hne:i=p
   ·exact hne
   exfalso;have hanc:=(hT i oi (by omega) hoi').2 p (by omega);have hcl:∀x y,Anc ops x y→listed.getD x false=true→listed.getD y false=true:=by
    intro x y hxy;induction hxy with
    |one hx he=>intro hk;have hxl:_<ops.length:=(List.getElem?_eq_some_iff.1 hx).1;have:=hS.edge _ _ hx _ he;rw[hl _ hxl]at hk;rw[hl _ (by omega)];have:=of_decide_eq_true hk;exact decide_eq_true (by omega)
    |more hx he _ ih2=>intro hk;refine ih2 ?_;have hxl:_<ops.length:=(List.getElem?_eq_some_iff.1 hx).1;have:=hS.edge _ _ hx _ he;rw[hl _ hxl]at hk;rw[hl _ (by omega)];have:=of_decide_eq_true hk;exact decide_eq_true (by omega)
   have hdir:∀e∈edgesOf oi,listed.getD e false=true:=by
    intro e he;unfold edgesOf at he;rw[List.mem_filterMap]at he;obtain⟨x,hx,hxe⟩:=he;split at hxe
    ·rename_i hb;cases hxe;exact hall x (by simpa using hx) hb
    ·cases hxe
   have:listed.getD p false=true:=by
    cases hanc with
    |one h he=>rw[hoi']at h;cases h;exact hdir _ he
    |more h he h'=>rw[hoi']at h;cases h;exact hcl _ _ h' (hdir _ he)
   rw[hlp]at this;cases this
  subst hip;unfold wpOp;have hoA:ops.toArray[i]? =some o:=by simpa using ho
  simp only[hoA];have hwant:Region.wanted o (yielded ops.toArray a.tmps)=true:=by unfold Region.wanted;rw[hg]
  rw[hwant,if_pos rfl];refine .inl (Oper.wp_mono ?_ (zih hΓ hgl F hGP (show c.m≤nidOf ops base i by unfold nidOf;omega) (hfr i o (Nat.le_refl _) ho) (by rw[hlen];exact zbP ho) h));rintro a' w' ⟨v',st',R',G',V,h1,rfl,h2,h3,h4,h5,h6⟩;refine ih (i+1) f (listed.setIfInBounds i true) ⟨putO o.dst v' st'.s,st'.h⟩ R' G' _ w' (by omega) (by omega) (by simpa using hsz) ?_ (by omega) (h2.put hdst h3) (hst R R' h6 hGP) (h5.trans hlen) ?_ h1
  ·intro j hj;by_cases hji:j=i
   ·subst hji;rw[decide_eq_true (by omega)];simp[show j<listed.size by omega]
   ·have e:=hl j hj;have:(listed.setIfInBounds i true).getD j false=listed.getD j false:=by simp[Array.getElem?_setIfInBounds_ne (fun h=>hji h.symm)]
    rw[this,e,decide_eq_decide];omega
  ·intro j oj hj hoj x hx1 hx2;have:=Zj (base:=base) ho hoj (by omega);exact h4 x (by omega) (hfr j oj (by omega) hoj x hx1 hx2)
theorem zfd(hm:E.P.follows .mixedOrders=true)(hΓ:∀C∈E.Γ,SoundC E.P GP C)(hgl:∀R,GP R→GlobOK E.gl R)(hst:Stays GP){ops:List Oper}{T:Type}{r:T}{k:St→Option T}{Q:Exit→Act→World→Prop}{st:St}{R:Ro}{G:List Res}
  {a:Act} {w:World} (F:Fit c E.n R G st a w) (hGP:GP R) {m:Nat} (hm1:1≤m) (ht:zd2 m ops=true) (h:zdz E m ops st k=some r) (hK:∀st' R' G' a' w',k st'=some r→Fit c E.n R' G' st' a' w'→GP R'→Q .normal a' w') {id:Nat}:
  (Code.region id ops.toArray true).wp E.P Q a w:=by
 unfold zdz at h;split at h
 ·rename_i hstat;obtain⟨hmle,hT⟩:=zoT ht;have hS:=zmv hstat;obtain⟨L,hL⟩:∃L,L=ops.length-m:=⟨_,rfl⟩
  rw[←hL]at h hT hS;have hLlt:L<ops.length:=by omega
  obtain⟨G0,F0,hfree,hlen⟩:=F.wide (zQ ops);have hrun:=zm0 (E:=E) (all:=ops) (base:=st.h.length) (ops.take L) 0 ⟨st.s,wide st.h (zQ ops)⟩ ⟨ops.drop L,by rw[List.drop_zero];exact (List.take_append_drop L ops).symm⟩ (by simpa[nidOf,zQ]using h);rw[List.length_take,Nat.min_eq_left (by omega)]at hrun;obtain⟨stn,hk,hrun⟩:=hrun;split at hk
  ·rename_i hpairs;have hA:∀(j k:Nat)(oj ok:Oper)(d:Nat),ops[j]? =some oj→ops[k]? =some ok→j≤k→k<L→ok.dst=some d→d∉oj.looksAt ops.toArray:=by
    intro j k oj ok d hj hk hjk hkM hd ht;rcases hS.look j oj d k hj ht (hS.lt k ok d hk hd).2 with h|h
    ·have:=h.lt hS.edge;omega
    ·omega
   have hE:∀(j k:Nat)(oj ok:Oper)(d:Nat),ops[j]? =some oj→ops[k]? =some ok→j≠k→oj.dst=some d→ok.dst≠some d:=by intro j k oj ok d hj hk hjk hd hd';have h1:=(hS.lt j oj d hj hd).2;have h2:=(hS.lt k ok d hk hd').2;rw[h1]at h2;exact hjk (Option.some.inj h2)
   have hcm:c.m≤st.h.length:=F.since.many;refine wp_region_any hm ?_;let rem:Array Bool→List Nat:=fun listed=>(List.range L).filter fun j=>!listed.getD j false
   have key:∀(fuel:Nat)(listed:Array Bool)(s:St)(R:Ro)(G:List Res)(a:Act)(w:World),listed.size=ops.length→(∀j,L≤j→listed.getD j false=false)→(rem listed).length+m≤fuel→
     (∀i,listed.getD i false=true→∀o,ops[i]? =some o→∀e∈edgesOf o,listed.getD e false=true)→Fit c E.n R G s a w→GP R→s.h.length=st.h.length+zQ ops→
     (∀i o,ops[i]? =some o→listed.getD i false=false→zfM s.h (nidOf ops st.h.length i) (rsv o))→RunS E ops st.h.length (rem listed) s stn→wpAny E.P .any ops.toArray Q fuel listed a w:=by
    intro fuel;have hnot:∀(listed:Array Bool),listed.size=ops.length→(∀j,L≤j→listed.getD j false=false)→Region.ready .any ops.toArray listed=[]→False:=by
     intro listed hsz hLf hr;have hall:∀j,j<ops.length→listed.getD j false=true:=by
      intro j;induction j using Nat.strongRecOn with
      |_ j ih=>
       intro hj;cases hb:listed.getD j false with
       |true=>rfl
       |false=>
        exfalso;have:j∈Region.ready .any ops.toArray listed:=by
         rw[mem_ready];refine⟨?_,ops[j],by simp[hj],fun e he hbind=>?_⟩
         ·have hlt:j<listed.size:=by omega
          simp[hlt]at hb⊢;exact hb
         ·have hlt:=hS.edge j ops[j] (by simp[hj]) e.on (by
           unfold edgesOf;rw[List.mem_filterMap];exact⟨e,by simpa using he,by simp[hbind]⟩)
          exact ih e.on hlt (by omega)
        rw[hr]at this;cases this
     have:=hLf L (Nat.le_refl _);rw[hall L (by omega)]at this;cases this
    induction fuel with
    |zero=>intro listed s R G a w hsz hLf hfu;omega
    |succ fuel ih=>
     intro listed s R G a w hsz hLf hfu hcl F hGP hl hfr hR;by_cases hnil:rem listed=[]
     ·rw[hnil]at hR hfu;have F':Fit c E.n R G stn a w:=⟨by rw[←hR.2];exact F.wrel,by rw[←hR.2];exact F.since,fun t=>by rw[←hR.1 t,←hR.2];exact F.slots t,F.defers,F.size⟩
      refine zpE hΓ hgl hst hS hcm hT hK m L (fuel+1) listed stn R G a w (by omega) (Nat.le_refl _) hsz ?_ (by simp at hfu;omega) F' hGP (by rw[←hR.2];exact hl) (fun i o hi ho=>by rw[←hR.2];exact hfr i o ho (hLf i hi)) hk;intro j hj;by_cases hjL:j<L
      ·rw[decide_eq_true hjL];have:=List.filter_eq_nil_iff.1 hnil j (by simpa using hjL);simpa using this
      ·rw[decide_eq_false hjL];exact hLf j (by omega)
     refine⟨fun hr=>(hnot listed hsz hLf hr).elim,fun i hi=>?_⟩;rw[mem_ready]at hi;obtain⟨hun,o,ho,hall⟩:=hi;have ho':ops[i]? =some o:=by simpa using ho
     have hilt:i<ops.length:=(List.getElem?_eq_some_iff.1 ho').1;have hil:i<listed.size:=by omega
     have hSi:listed.getD i false=false:=by simp[hil]at hun⊢;exact hun
     have hdir:∀e∈edgesOf o,listed.getD e false=true:=by
      intro e he;unfold edgesOf at he;rw[List.mem_filterMap]at he;obtain⟨x,hx,hxe⟩:=he;split at hxe
      ·rename_i hb;cases hxe;exact hall x (by simpa using hx) hb
      ·cases hxe
     have hanc:∀k j,Anc ops k j→listed.getD k false=true→listed.getD j false=true:=by
      intro k j h;induction h with
      |one h he=>intro hk;exact hcl _ hk _ h _ he
      |more h he _ ih=>intro hk;exact ih (hcl _ hk _ h _ he)
     have hanci:∀j,Anc ops i j→listed.getD j false=true:=by
      intro j h;cases h with
      |one h he=>rw[ho']at h;cases h;exact hdir _ he
      |more h he h'=>rw[ho']at h;cases h;exact hanc _ _ h' (hdir _ he)
     have hset:∀j,(listed.setIfInBounds i true).getD j false=(listed.getD j false||Nat.beq j i):=by
      intro j;by_cases hji:j=i
      ·subst hji;simp[hil]
      ·have hne:¬i=j:=fun h=>hji h.symm
       have hb:Nat.beq j i=false:=by
        cases hb:Nat.beq j i with
        |false=>rfl
        |true=>exact absurd (Nat.eq_of_beq_eq_true hb) hji
       simp[hb,Array.getElem?_setIfInBounds_ne hne]
     have hiL':i<L:=by
      rcases Nat.lt_or_ge i L with h|h
      ·exact h
      ·exfalso;refine hnil (List.filter_eq_nil_iff.2 fun j hj=>?_);have hjL:j<L:=by simpa using hj
       simp[hanci j ((hT i o h ho').2 j (by omega))]
     obtain⟨l1,l2,g1,g2,g3⟩:=QN (p:=fun j=>!listed.getD j false) (q:=fun j=>!(listed.setIfInBounds i true).getD j false) (l:=List.range L) List.pairwise_lt_range (by simpa using hiL') (by simp only[hSi];rfl)
      (fun j=>by rw[hset];cases listed.getD j false<;>cases Nat.beq j i<;>rfl)
     have hrem:rem listed=l1++i::l2:=g1;have hrem':rem (listed.setIfInBounds i true)=l1++l2:=g2;have hunl:∀j∈l1++i::l2,listed.getD j false=false:=by intro j hj;rw[←hrem]at hj;have:=(List.mem_filter.1 hj).2;simpa using this
     rw[hrem]at hR;obtain⟨s',hstep,hR'⟩:=zt5 ho' hA hE l1 s (fun k hk=>by rw[←hrem]at hk;have:=(List.mem_filter.1 hk).1;simpa using this) (by rw[←hrem];exact List.Pairwise.filter _ List.pairwise_lt_range)
      (fun k hk ok d hok hd ht=>by
       rcases hS.look i o d k ho' ht (hS.lt k ok d hok hd).2 with h|h
       ·have:=hanci k h;rw[hunl k hk]at this;cases this
       ·rw[←hrem]at hk;have:=(List.mem_filter.1 hk).1;have:k<L:=by simpa using this
        omega)
      (fun j hj oj hoj=>zep hpairs ho' hoj (g3 j hj) (fun hanc=>by have:=hanci j hanc;rw[hunl j (List.mem_append_left _ hj)]at this;cases this)) hR
     obtain⟨o2,v,u,e1,e2,e3⟩:=hstep;rw[ho']at e1;cases e1;have next:∀(R':Ro)(G':List Res)(a':Act)(w':World),Fit c E.n R' G' s' a' w'→GP R'→Ky (nidOf ops st.h.length i) (rsv o) s.h s'.h→s'.h.length=s.h.length→
       wpAny E.P .any ops.toArray Q fuel (listed.setIfInBounds i true) a' w':=by
      intro R' G' a' w' F' hGP' hno hlen';refine ih (listed.setIfInBounds i true) s' R' G' a' w' (by simpa using hsz) (fun j hj=>by rw[hset,hLf j hj];cases hb:Nat.beq j i with|false=>rfl|true=>exact absurd (Nat.eq_of_beq_eq_true hb) (by omega)) (by rw[hrem'];rw[hrem]at hfu;simp at hfu⊢;omega) ?_ F' hGP' (by omega) ?_ (by rw[hrem'];exact hR')
      ·intro j hj oj hoj e he;rw[hset]at hj⊢;simp only[Bool.or_eq_true]at hj⊢;rcases hj with hj|hj
       ·exact .inl (hcl j hj oj hoj e he)
       ·have:=Nat.eq_of_beq_eq_true hj;subst this;rw[ho']at hoj;cases hoj;exact .inl (hdir e he)
      ·intro j oj hoj hj x hx1 hx2;rw[hset]at hj;simp only[Bool.or_eq_false_iff]at hj;have hne:j≠i:=fun e=>by rw[e]at hj;simp at hj
       refine hno x (fun hh=>?_) (hfr j oj hoj hj.1 x hx1 hx2);rcases Nat.lt_or_gt_of_ne hne with hlt|hlt
       ·have:=Zj (base:=st.h.length) hoj ho' hlt;omega
       ·have:=Zj (base:=st.h.length) ho' hoj hlt;omega
     unfold wpOp;have hoA:ops.toArray[i]? =some o:=by simpa using ho'
     simp only[hoA];have hdst:zlh E.n o.dst=true:=by
      cases hd:o.dst with
      |none=>rfl
      |some d=>exact (hS.lt i o d ho' hd).1
     rcases e3 with⟨hw,hloc⟩|⟨hw,rfl,rfl⟩
     ·rw[KJ F hS hw,if_pos rfl];have heff:=hloc.eff (AV×St) (fun v s=>some (v,s));refine .inl (Oper.wp_mono ?_ (zih hΓ hgl F hGP (show c.m≤nidOf ops st.h.length i by unfold nidOf;omega) (hfr i o ho' hSi) (by rw[hl];exact zbP ho') heff));rintro a' w' ⟨v',st',R',G',V,h1,rfl,h2,h3,h4,h5,h6⟩;simp only[Option.some.injEq,Prod.mk.injEq]at h1;obtain⟨rfl,rfl⟩:=h1;have F2:=h2.put hdst h3;exact next R' G' _ w' (by rw[e2];exact F2) (hst R R' h6 hGP) (by rw[e2];exact h4) (by rw[e2];exact h5)
     ·rw[KJ F hS hw];simp only[Bool.false_eq_true,if_false];have F2:=F.put (v:=.tup []) (V:=undef) hdst ⟨[],rfl,rfl⟩;exact next R G _ w (by rw[e2];exact F2) hGP (by rw[e2];exact fun _ _ h=>h) (by rw[e2];rfl)
   refine key ops.toArray.size _ ⟨st.s,wide st.h (zQ ops)⟩ R G0 a _ (by simp) (fun j _=>by by_cases hlt:j<ops.length<;>simp[hlt]) ?_ ?_ (F0.keep (Keeps.drawn w _)) hGP hlen (fun i o hi _ x hx1 hx2=>hfree x (by unfold nidOf at hx1;omega)) ?_
   ·have h1:=List.length_filter_le (fun j=>!(Array.replicate ops.toArray.size false).getD j false) (List.range L);have h2:(List.range L).length+m≤ops.toArray.size:=by simp;omega
    exact Nat.le_trans (Nat.add_le_add_right h1 m) h2
   ·intro i hi;exfalso;by_cases hlt:i<ops.length
    ·simp[hlt]at hi
    ·simp[hlt]at hi
   ·have:rem (Array.replicate ops.toArray.size false)=List.range' 0 L:=by
     show(List.range L).filter _=_;rw[List.filter_eq_self.2,List.range_eq_range'];intro j hj;have:j<L:=by simpa using hj
     simp[show j<ops.length by omega]
    rw[this];exact hrun
  ·cases hk
 ·cases h
end
end Go.Am
