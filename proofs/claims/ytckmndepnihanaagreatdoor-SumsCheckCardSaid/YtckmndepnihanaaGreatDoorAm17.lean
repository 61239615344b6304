/-
  A part of the proof of the laws.
-/
import Derived.Test.YtckmndepnihanaaGreatDoorAm16
namespace Go.Am
open Go Go.RowKit Go.Vc
section
variable {E : Env} {all : List Oper} {base : Nat}
theorem yk:∀{ops:List Oper}{i:Nat}{o:Oper},ops[i]? =some o→rsvAll (ops.take (i+1))=rsvAll (ops.take i)+rsv o
 |[],_,_,h=>by simp at h
 |x::r,0,o,h=>by simp at h;subst h;simp[rsvAll]
 |x::r,i+1,o,h=>by have:=yk (ops:=r) (i:=i) (o:=o) (by simpa using h);simp only[List.take_succ_cons,rsvAll]at this⊢;omega
theorem Wr:∀(ops:List Oper)(i j:Nat),i≤j→rsvAll (ops.take i)≤rsvAll (ops.take j)
 |[],_,_,_=>by simp
 |x::r,0,j,_=>by simp[rsvAll]
 |x::r,i+1,0,h=>by omega
 |x::r,i+1,j+1,h=>by have:=Wr r i j (by omega);simp only[List.take_succ_cons,rsvAll];omega
theorem jl{i j:Nat}{oi oj:Oper}(hi:all[i]? =some oi)(_hj:all[j]? =some oj)(hij:i<j):nidOf all base i+rsv oi≤nidOf all base j:=by unfold nidOf;have h1:=yk hi;have h2:=Wr all (i+1) j hij;omega
theorem yT{i:Nat}{o:Oper}(hi:all[i]? =some o):nidOf all base i+rsv o≤base+rsvAll all:=by unfold nidOf;have h1:=yk hi;have h2:=Wr all (i+1) all.length (by have:=(List.getElem?_eq_some_iff.1 hi).1;omega);rw[List.take_length]at h2;omega
theorem znu{T:Type}{k:St→Option T}{r:T}:∀(ops:List Oper)(i:Nat)(st:St),all.drop i=ops→yc E true all ops (nidOf all base i) st k=some r→
  ∃stn,k stn=some r∧RunS E all base (List.range' i ops.length) st stn:=by
 intro ops;induction ops with
 |nil=>intro i st _ h;exact⟨st,h,Eqv.refl _⟩
 |cons o rest ih=>
  intro i st hdrop h;have hi:all[i]? =some o:=by have:=congrArg (·[0]?) hdrop;simpa[List.getElem?_drop]using this
  have hrest:all.drop (i+1)=rest:=by have:=congrArg (List.drop 1) hdrop;simpa[List.drop_drop,Nat.add_comm]using this
  have hnid:nidOf all base i+rsv o=nidOf all base (i+1):=by unfold nidOf;have:=yk hi;omega
  rw[List.length_cons,List.range'_succ];simp only[yc,hnid]at h;split at h
  ·cases h
  ·have go:∀(st0:St),Eqv st0 st→zu all o st=some true→opK E true (nidOf all base i) o.op st0 (fun v st'=>yc E true all rest (nidOf all base (i+1)) ⟨putO o.dst v st'.s,st'.h⟩ k)=some r→
     ∃stn,k stn=some r∧RunS E all base (i::List.range' (i+1) rest.length) st stn:=by
    intro st0 e0 hw h0;obtain⟨v,u,h1,h2⟩:=QP h0;obtain⟨stn,h5,h6⟩:=ih (i+1) _ hrest h1;have hstep:StepS E all base i st0 ⟨putO o.dst v st0.s,jA st0.h u⟩:=⟨o,v,u,hi,rfl,.inl ⟨(zt (fun t _=>e0.1 t)).trans hw,h2⟩⟩
    obtain⟨st2,h7,h8⟩:=hstep.eqv e0;exact⟨stn,h5,st2,h7,h6.eqv h8⟩
   have no:∀(st0:St),Eqv st0 st→zu all o st=some false→yc E true all rest (nidOf all base (i+1)) ⟨putO o.dst (.tup []) st0.s,st0.h⟩ k=some r→
     ∃stn,k stn=some r∧RunS E all base (i::List.range' (i+1) rest.length) st stn:=by
    intro st0 e0 hw h0;obtain⟨stn,h5,h6⟩:=ih (i+1) _ hrest h0;have hstep:StepS E all base i st0 ⟨putO o.dst (.tup []) st0.s,jA st0.h []⟩:=⟨o,.tup [],[],hi,rfl,.inr ⟨(zt (fun t _=>e0.1 t)).trans hw,rfl,rfl⟩⟩
    obtain⟨st2,h7,h8⟩:=hstep.eqv e0;exact⟨stn,h5,st2,h7,h6.eqv h8⟩
   split at h
   ·rename_i hg;exact go st (Eqv.refl _) (by unfold zu;rw[hg]) h
   ·rename_i g want hg;split at h
    ·rename_i t ht;split at h
     ·rename_i b hlt hb;have hw:zu all o st=some (b==want):=by unfold zu;simp only[hg,ht,hb]
      have e0:Eqv ⟨put t (.bool b) st.s,st.h⟩ st:=by
       refine⟨fun x=>?_,rfl⟩;show get (put t (.bool b) st.s) x=get st.s x;rw[jb];split
       ·rename_i e;subst e;exact hb.symm
       ·rfl
      cases b<;>cases want<;>simp only[cond_true,cond_false]at h
      ·exact go _ e0 hw h
      ·exact no _ e0 hw h
      ·exact no _ e0 hw h
      ·exact go _ e0 hw h
     ·rename_i hlt hb;exact no st (Eqv.refl _) (by unfold zu;simp only[hg,ht,hb]) h
     ·cases h
    ·cases h
structure StatOk(n L:Nat)(ops:List Oper):Prop where
 edge:∀(i:Nat)(o:Oper),ops[i]? =some o→∀e∈edgesOf o,e<i
 lt:∀(i:Nat)(o:Oper)(d:Nat),ops[i]? =some o→o.dst=some d→Nat.blt d n=true∧wrFrom ops 0 d=some i
 look:∀(i:Nat)(o:Oper)(t j:Nat),ops[i]? =some o→t∈o.looksAt ops.toArray→wrFrom ops 0 t=some j→Anc ops i j∨L≤j
theorem zng{n:Nat}{ops:List Oper}(h:zgV n ops=true):StatOk n ops.length ops:=by
 unfold zgV at h;simp only[]at h;refine⟨fun i o hi e he=>?_,fun i o d hi hd=>?_,fun i o t j hi ht hw=>?_⟩;all_goals
  have h1:=jG h hi;simp only[Bool.and_eq_true]at h1;obtain⟨⟨h1,h2⟩,h3⟩:=h1
 ·have:=List.all_eq_true.1 h1 e he;have:e+1≤i:=by simpa[Nat.blt]using this
  omega
 ·rw[hd]at h2;simp only[Bool.and_eq_true]at h2;obtain⟨h4,h5⟩:=h2;refine⟨h4,?_⟩;split at h5
  ·rename_i j hj;rw[hj,Nat.eq_of_beq_eq_true h5]
  ·cases h5
 ·have:=List.all_eq_true.1 h3 t ht;rw[hw]at this;exact .inl (zI (zy.1 this))
theorem zko{n m:Nat}{ops:List Oper}(h:Kh n m ops=true):StatOk n (ops.length-m) ops:=by
 unfold Kh at h;simp only[]at h;refine⟨fun i o hi e he=>?_,fun i o d hi hd=>?_,fun i o t j hi ht hw=>?_⟩;all_goals
  have h1:=jG h hi;simp only[Bool.and_eq_true]at h1;obtain⟨⟨h1,h2⟩,h3⟩:=h1
 ·have:=List.all_eq_true.1 h1 e he;have:e+1≤i:=by simpa[Nat.blt]using this
  omega
 ·rw[hd]at h2;simp only[Bool.and_eq_true]at h2;obtain⟨h4,h5⟩:=h2;refine⟨h4,?_⟩;split at h5
  ·rename_i j hj;rw[hj,Nat.eq_of_beq_eq_true h5]
  ·cases h5
 ·have:=List.all_eq_true.1 h3 t ht;rw[hw]at this;simp only[Bool.or_eq_true]at this;rcases this with this|this
  ·exact .inl (zI (zy.1 this))
  ·exact .inr (Nat.le_of_ble_eq_true this)
theorem zcZ{ops:List Oper}{st:St}(h:za0 E ops base st=true){i j:Nat}{oi oj:Oper}(hi:ops[i]? =some oi)(hj:ops[j]? =some oj)(hji:j<i)(hn:¬Anc ops i j):
  YW (fpW E ops st (nidOf ops base j) oj) (fpW E ops st (nidOf ops base i) oi)=true:=by
 unfold za0 at h;simp only[]at h;have hget:∀(k:Nat)(o:Oper),ops[k]? =some o→(ops.zipIdx.map fun(o,i)=>fpW E ops st (nidOf ops base i) o)[k]? =some (fpW E ops st (nidOf ops base k) o):=by intro k o hk;simp only[List.getElem?_map,List.getElem?_zipIdx,hk,Option.map_some,Nat.zero_add]
 have h1:=jG h (hget i oi hi);simp only[]at h1;have h2:=jG h1 (i:=j) (x:=fpW E ops st (nidOf ops base j) oj) (by rw[List.getElem?_take,if_pos hji];exact hget j oj hj);simp only[Bool.or_eq_true]at h2;rcases h2 with h2|h2
 ·exact absurd (zI (zy.1 h2)) hn
 ·exact h2
theorem qe{p q:Nat→Bool}{i:Nat}:∀{l:List Nat},l.Pairwise (· < ·)→i∈l→p i=true→(∀j,q j=(p j&&!(Nat.beq j i)))→
  ∃l1 l2,l.filter p=l1++i::l2∧l.filter q=l1++l2∧(∀j∈l1,j<i)
 |[],_,h,_,_=>by cases h
 |x::r,hs,hi,hp,hq=>by
  have hs:=List.pairwise_cons.1 hs;by_cases hx:x=i
  ·subst hx;have hqx:q x=false:=by rw[hq];simp
   have hr:r.filter q=r.filter p:=List.filter_congr fun j hj=>by
    rw[hq];have:Nat.beq j x=false:=by
     cases hb:Nat.beq j x with
     |false=>rfl
     |true=>have:=Nat.eq_of_beq_eq_true hb;have:=hs.1 j hj;omega
    simp[this]
   exact⟨[],r.filter p,by simp[hp],by simp[hqx,hr],by simp⟩
  ·have hi':i∈r:=by rcases List.mem_cons.1 hi with h|h;exact absurd h.symm hx;exact h
   obtain⟨l1,l2,h1,h2,h3⟩:=qe hs.2 hi' hp hq;have hxi:x<i:=hs.1 i hi';have hqx:q x=p x:=by
    rw[hq];have:Nat.beq x i=false:=by
     cases hb:Nat.beq x i with
     |false=>rfl
     |true=>exact absurd (Nat.eq_of_beq_eq_true hb) hx
    simp[this]
   cases hpx:p x with
   |true=>exact⟨x::l1,l2,by simp[hpx,h1],by simp[hqx,hpx,h2],fun j hj=>by rcases List.mem_cons.1 hj with rfl|hj;exact hxi;exact h3 j hj⟩
   |false=>exact⟨l1,l2,by simp[hpx,h1],by simp[hqx,hpx,h2],h3⟩
theorem jB{o:Oper}{st:St}{R:Ro}{G:List Res}{c:Base}{n L:Nat}{a:Act}{w:World}(F:Fit c n R G st a w)(hS:StatOk n L all){b:Bool}(h:zu all o st=some b):
  Region.wanted o (yielded all.toArray a.tmps)=b:=by
 unfold zu at h;cases hg:o.guard with
 |none=>rw[hg]at h;cases h;simp[Region.wanted,hg]
 |some gw=>
  obtain⟨g,want⟩:=gw;rw[hg]at h;cases ht:Yt all g with
  |none=>simp only[ht]at h;cases h
  |some t=>
   simp only[ht]at h;split at h
   ·rename_i x hx;cases h;unfold Yt at ht;split at ht
    ·rename_i og hog;have hlt:=(hS.lt g og t hog ht).1;have hlt':t<a.tmps.size:=by
       rw[F.size];have:t+1≤n:=by simpa[Nat.blt]using hlt
       omega
     have hsl:=F.slots t;rw[hx]at hsl;simp only[Rel]at hsl;have hy:yielded all.toArray a.tmps g=some x:=by
      unfold yielded;have e1:(all.toArray[g]?).bind (·.dst)=some t:=by rw[List.getElem?_toArray,hog];exact ht
      rw[e1];simp only[Option.bind_some];have:a.tmps[t]? =some (.bool x):=by
       rw[Array.getElem?_eq_getElem hlt'];have e2:a.tmps.getD t undef=a.tmps[t]:=by simp[hlt']
       rw[←e2,hsl]
      rw[this]
     simp only[Region.wanted,hg,hy];cases x<;>cases want<;>rfl
    ·cases ht
   ·rename_i hx;cases h;unfold Yt at ht;split at ht
    ·rename_i og hog;have hlt:=(hS.lt g og t hog ht).1;have hlt':t<a.tmps.size:=by
       rw[F.size];have:t+1≤n:=by simpa[Nat.blt]using hlt
       omega
     have hsl:=F.slots t;rw[hx]at hsl;obtain⟨vs0,hsl,h0⟩:=hsl;have h0:vs0=[]:=h0;subst h0;have hy:yielded all.toArray a.tmps g=none:=by
      unfold yielded;have e1:(all.toArray[g]?).bind (·.dst)=some t:=by rw[List.getElem?_toArray,hog];exact ht
      rw[e1];simp only[Option.bind_some];have:a.tmps[t]? =some (.tuple #[]):=by
       rw[Array.getElem?_eq_getElem hlt'];have e2:a.tmps.getD t undef=a.tmps[t]:=by simp[hlt']
       rw[←e2,hsl]
      rw[this]
     simp[Region.wanted,hg,hy]
    ·cases ht
   ·cases h
variable {GP : Ro → Prop} {c : Base}
theorem zny(hm:E.P.follows .mixedOrders=true)(hΓ:∀C∈E.Γ,SoundC E.P GP C)(hgl:∀R,GP R→GlobOK E.gl R)(hst:Stays GP){ops:List Oper}{T:Type}{r:T}{k:St→Option T}{Q:Exit→Act→World→Prop}{st:St}{R:Ro}{G:List Res}
  {a:Act} {w:World} (F:Fit c E.n R G st a w) (hGP:GP R) {id:Nat} {alt:Option T} (halt:alt=some r→(Code.region id ops.toArray true).wp E.P Q a w) (h:zkK E ops st alt k=some r) (hK:∀st' R' G' a' w',k st'=some r→Fit c E.n R' G' st' a' w'→GP R'→Q .normal a' w'):
  (Code.region id ops.toArray true).wp E.P Q a w:=by
 unfold zkK at h;split at h
 ·rename_i hstat;have hS:=zng hstat;obtain⟨G0,F0,hfree,hlen⟩:=F.wide (rsvAll ops);have hrun:=znu (E:=E) (all:=ops) (base:=st.h.length) ops 0 ⟨st.s,wide st.h (rsvAll ops)⟩ (by simp) (by simpa[nidOf,rsvAll]using h);obtain⟨stn,hk,hrun⟩:=hrun;split at hk
  ·rename_i hpairs;have hA:∀(j k:Nat)(oj ok:Oper)(d:Nat),ops[j]? =some oj→ops[k]? =some ok→j≤k→k<ops.length→ok.dst=some d→d∉oj.looksAt ops.toArray:=by
    intro j k oj ok d hj hk hjk hkM hd ht;rcases hS.look j oj d k hj ht (hS.lt k ok d hk hd).2 with h|h
    ·have:=h.lt hS.edge;omega
    ·omega
   have hE:∀(j k:Nat)(oj ok:Oper)(d:Nat),ops[j]? =some oj→ops[k]? =some ok→j≠k→oj.dst=some d→ok.dst≠some d:=by intro j k oj ok d hj hk hjk hd hd';have h1:=(hS.lt j oj d hj hd).2;have h2:=(hS.lt k ok d hk hd').2;rw[h1]at h2;exact hjk (Option.some.inj h2)
   have hcm:c.m≤st.h.length:=F.since.many;refine wp_region_any hm ?_;let rem:Array Bool→List Nat:=fun listed=>(List.range ops.length).filter fun j=>!listed.getD j false
   have key:∀(fuel:Nat)(listed:Array Bool)(s:St)(R:Ro)(G:List Res)(a:Act)(w:World),listed.size=ops.length→(rem listed).length≤fuel→
     (∀i,listed.getD i false=true→∀o,ops[i]? =some o→∀e∈edgesOf o,listed.getD e false=true)→Fit c E.n R G s a w→GP R→s.h.length=st.h.length+rsvAll ops→
     (∀i o,ops[i]? =some o→listed.getD i false=false→FreeR s.h (nidOf ops st.h.length i) (rsv o))→RunS E ops st.h.length (rem listed) s stn→wpAny E.P .any ops.toArray Q fuel listed a w:=by
    intro fuel;have hend:∀(listed:Array Bool)(s:St)(R:Ro)(G:List Res)(a:Act)(w:World),listed.size=ops.length→Region.ready .any ops.toArray listed=[]→Fit c E.n R G s a w→GP R→
      RunS E ops st.h.length (rem listed) s stn→Q .normal a w:=by
     intro listed s R G a w hsz hr F hGP hR;have hall:∀j,j<ops.length→listed.getD j false=true:=by
      intro j;induction j using Nat.strongRecOn with
      |_ j ih=>
       intro hj;cases hb:listed.getD j false with
       |true=>rfl
       |false=>
        exfalso;have:j∈Region.ready .any ops.toArray listed:=by
         rw[mem_ready];refine⟨?_,ops[j],by simp[hj],fun e he hbind=>?_⟩
         ·have hlt:j<listed.size:=by omega
          simp[hlt]at hb⊢;exact hb
         ·have hlt:=hS.edge j ops[j] (by simp[hj]) e.on (by
           unfold edgesOf;rw[List.mem_filterMap];exact⟨e,by simpa using he,by simp[hbind]⟩)
          exact ih e.on hlt (by omega)
        rw[hr]at this;cases this
     have hnil:rem listed=[]:=by rw[List.filter_eq_nil_iff];intro j hj;simp[hall j (by simpa using hj)]
     rw[hnil]at hR;have F':Fit c E.n R G stn a w:=⟨by rw[←hR.2];exact F.wrel,by rw[←hR.2];exact F.since,fun t=>by rw[←hR.1 t,←hR.2];exact F.slots t,F.defers,F.size⟩
     exact hK stn R G a w hk F' hGP
    induction fuel with
    |zero=>
     intro listed s R G a w hsz hfu hcl F hGP hl hfr hR;have hr:Region.ready .any ops.toArray listed=[]:=by
      rcases hc:Region.ready .any ops.toArray listed with _|⟨i,r⟩
      ·rfl
      ·exfalso;have hi:i∈Region.ready .any ops.toArray listed:=by rw[hc];simp
       rw[mem_ready]at hi;obtain⟨hun,o,ho,_⟩:=hi;have ho':ops[i]? =some o:=by simpa using ho
       have hilt:i<ops.length:=(List.getElem?_eq_some_iff.1 ho').1;have hil:i<listed.size:=by omega
       have hSi:listed.getD i false=false:=by simp[hil]at hun⊢;exact hun
       have:i∈rem listed:=by show i∈(List.range ops.length).filter _;rw[List.mem_filter];exact⟨by simpa using hilt,by rw[hSi];rfl⟩
       have:=List.length_pos_of_mem this;omega
     exact⟨hr,hend listed s R G a w hsz hr F hGP hR⟩
    |succ fuel ih=>
     intro listed s R G a w hsz hfu hcl F hGP hl hfr hR;refine⟨fun hr=>hend listed s R G a w hsz hr F hGP hR,fun i hi=>?_⟩;rw[mem_ready]at hi;obtain⟨hun,o,ho,hall⟩:=hi;have ho':ops[i]? =some o:=by simpa using ho
     have hilt:i<ops.length:=(List.getElem?_eq_some_iff.1 ho').1;have hil:i<listed.size:=by omega
     have hSi:listed.getD i false=false:=by simp[hil]at hun⊢;exact hun
     have hdir:∀e∈edgesOf o,listed.getD e false=true:=by
      intro e he;unfold edgesOf at he;rw[List.mem_filterMap]at he;obtain⟨x,hx,hxe⟩:=he;split at hxe
      ·rename_i hb;cases hxe;exact hall x (by simpa using hx) hb
      ·cases hxe
     have hanc:∀k j,Anc ops k j→listed.getD k false=true→listed.getD j false=true:=by
      intro k j h;induction h with
      |one h he=>intro hk;exact hcl _ hk _ h _ he
      |more h he _ ih=>intro hk;exact ih (hcl _ hk _ h _ he)
     have hanci:∀j,Anc ops i j→listed.getD j false=true:=by
      intro j h;cases h with
      |one h he=>rw[ho']at h;cases h;exact hdir _ he
      |more h he h'=>rw[ho']at h;cases h;exact hanc _ _ h' (hdir _ he)
     have hset:∀j,(listed.setIfInBounds i true).getD j false=(listed.getD j false||Nat.beq j i):=by
      intro j;by_cases hji:j=i
      ·subst hji;simp[hil]
      ·have hne:¬i=j:=fun h=>hji h.symm
       have hb:Nat.beq j i=false:=by
        cases hb:Nat.beq j i with
        |false=>rfl
        |true=>exact absurd (Nat.eq_of_beq_eq_true hb) hji
       simp[hb,Array.getElem?_setIfInBounds_ne hne]
     obtain⟨l1,l2,g1,g2,g3⟩:=qe (p:=fun j=>!listed.getD j false) (q:=fun j=>!(listed.setIfInBounds i true).getD j false) (l:=List.range ops.length) List.pairwise_lt_range (by simpa using hilt) (by simp only[hSi];rfl)
      (fun j=>by rw[hset];cases listed.getD j false<;>cases Nat.beq j i<;>rfl)
     have hrem:rem listed=l1++i::l2:=g1;have hrem':rem (listed.setIfInBounds i true)=l1++l2:=g2;have hunl:∀j∈l1++i::l2,listed.getD j false=false:=by intro j hj;rw[←hrem]at hj;have:=(List.mem_filter.1 hj).2;simpa using this
     rw[hrem]at hR;obtain⟨s',hstep,hR'⟩:=zw4 ho' hA hE l1 s (fun k hk=>by rw[←hrem]at hk;have:=(List.mem_filter.1 hk).1;simpa using this) (by rw[←hrem];exact List.Pairwise.filter _ List.pairwise_lt_range)
      (fun k hk ok d hok hd ht=>by
       rcases hS.look i o d k ho' ht (hS.lt k ok d hok hd).2 with h|h
       ·have:=hanci k h;rw[hunl k hk]at this;cases this
       ·have:=(List.getElem?_eq_some_iff.1 hok).1;omega)
      (fun j hj oj hoj=>zcZ hpairs ho' hoj (g3 j hj) (fun hanc=>by have:=hanci j hanc;rw[hunl j (List.mem_append_left _ hj)]at this;cases this)) (fun hb hr x hx=>hfr i o ho' hSi x (zcr hb hr x hx).1 (zcr hb hr x hx).2) hR
     obtain⟨o2,v,u,e1,e2,e3⟩:=hstep;rw[ho']at e1;cases e1;have next:∀(R':Ro)(G':List Res)(a':Act)(w':World),Fit c E.n R' G' s' a' w'→GP R'→ZO (nidOf ops st.h.length i) (rsv o) s.h s'.h→s'.h.length=s.h.length→
       wpAny E.P .any ops.toArray Q fuel (listed.setIfInBounds i true) a' w':=by
      intro R' G' a' w' F' hGP' hno hlen';refine ih (listed.setIfInBounds i true) s' R' G' a' w' (by simpa using hsz) (by rw[hrem'];rw[hrem]at hfu;simp at hfu⊢;omega) ?_ F' hGP' (by omega) ?_ (by rw[hrem'];exact hR')
      ·intro j hj oj hoj e he;rw[hset]at hj⊢;simp only[Bool.or_eq_true]at hj⊢;rcases hj with hj|hj
       ·exact .inl (hcl j hj oj hoj e he)
       ·have:=Nat.eq_of_beq_eq_true hj;subst this;rw[ho']at hoj;cases hoj;exact .inl (hdir e he)
      ·intro j oj hoj hj x hx1 hx2;rw[hset]at hj;simp only[Bool.or_eq_false_iff]at hj;have hne:j≠i:=fun e=>by rw[e]at hj;simp at hj
       refine hno x (fun hh=>?_) (hfr j oj hoj hj.1 x hx1 hx2);rcases Nat.lt_or_gt_of_ne hne with hlt|hlt
       ·have:=jl (base:=st.h.length) hoj ho' hlt;omega
       ·have:=jl (base:=st.h.length) ho' hoj hlt;omega
     unfold wpOp;have hoA:ops.toArray[i]? =some o:=by simpa using ho'
     simp only[hoA];have hdst:VM E.n o.dst=true:=by
      cases hd:o.dst with
      |none=>rfl
      |some d=>exact (hS.lt i o d ho' hd).1
     rcases e3 with⟨hw,hloc⟩|⟨hw,rfl,rfl⟩
     ·rw[jB F hS hw,if_pos rfl];have heff:=hloc.eff (AV×St) (fun v s=>some (v,s));refine .inl (Oper.wp_mono ?_ (Z9 hΓ hgl F hGP (show c.m≤nidOf ops st.h.length i by unfold nidOf;omega) (hfr i o ho' hSi) (by rw[hl];exact yT ho') heff));rintro a' w' ⟨v',st',R',G',V,h1,rfl,h2,h3,h4,h5,h6⟩;simp only[Option.some.injEq,Prod.mk.injEq]at h1;obtain⟨rfl,rfl⟩:=h1;have F2:=h2.put hdst h3;exact next R' G' _ w' (by rw[e2];exact F2) (hst R R' h6 hGP) (by rw[e2];exact h4) (by rw[e2];exact h5)
     ·rw[jB F hS hw];simp only[Bool.false_eq_true,if_false];have F2:=F.put (v:=.tup []) (V:=undef) hdst ⟨[],rfl,rfl⟩;exact next R G _ w (by rw[e2];exact F2) hGP (by rw[e2];exact fun _ _ h=>h) (by rw[e2];rfl)
   refine key ops.toArray.size _ ⟨st.s,wide st.h (rsvAll ops)⟩ R G0 a _ (by simp) ?_ ?_ (F0.keep (Keeps.drawn w _)) hGP hlen (fun i o hi _ x hx1 hx2=>hfree x (by unfold nidOf at hx1;omega)) ?_
   ·have h1:=List.length_filter_le (fun j=>!(Array.replicate ops.toArray.size false).getD j false) (List.range ops.length);have h2:(List.range ops.length).length≤ops.toArray.size:=by simp
    exact Nat.le_trans h1 h2
   ·intro i hi;exfalso;by_cases hlt:i<ops.length
    ·simp[hlt]at hi
    ·simp[hlt]at hi
   ·have:rem (Array.replicate ops.toArray.size false)=List.range' 0 ops.length:=by
     show(List.range ops.length).filter _=_;rw[List.filter_eq_self.2,List.range_eq_range'];intro j hj;have:j<ops.length:=by simpa using hj
     simp[this]
    rw[this];exact hrun
  ·exact halt hk
 ·exact halt h
end
end Go.Am
