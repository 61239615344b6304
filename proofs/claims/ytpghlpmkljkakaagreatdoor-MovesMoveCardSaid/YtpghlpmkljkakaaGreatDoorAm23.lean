/-
  A part of the proof of the laws on moves.
-/
import Derived.Test.YtpghlpmkljkakaaGreatDoorAm20
namespace Go.Am
open Go Go.RowKit Go.Vc
def WC:AO→Bool
 |.bytes _ _|.ints _ _ _|.strs _ _|.vals _ _ _=>true
 |_=>false
def zaj(L:Lk)(R:Ro):AO→List Value→Prop
 |.bytes _ l,cs=>cs=l.map u8V
 |.ints _ k l,cs=>cs=l.map (Value.int k)
 |.strs _ l,cs=>cs=l.map fun s=>Value.string (bs s)
 |.vals _ z l,cs=>idsL l=[]∧RelR L R z l cs
 |_,_=>False
theorem RelR.append{L:Lk}{R:Ro}{z:Nat}:∀{l l':List AV}{a b:List Value},RelR L R z l a→RelR L R z l' b→RelR L R z (l++l') (a++b)
 |[],_,_,_,h,h'=>by have h:_=[]:=h;subst h;exact h'
 |v::r,l',a,b,h,h'=>by
  cases v with
  |agg cs=>obtain⟨x,y,rfl,h1,h2,h3⟩:=h;exact⟨x,y++b,by simp,h1,h2,RelR.append h3 h'⟩
  |_=>obtain⟨u,us,rfl,h1,h2,h3,h4⟩:=h;exact⟨u,us++b,rfl,h1,h2,h3,RelR.append h4 h'⟩
theorem catA_ok{L:Lk}{R:Ro}{o o' o2:AO}(h:zpS o o'=some o2):tyO o2=tyO o∧zOf o2=zOf o∧zOf o'=zOf o∧lenO o2=lenO o+lenO o'∧WC o=true∧WC o2=true∧(∀cs cs',zaj L R o cs→zaj L R o' cs'→zaj L R o2 (cs++cs')):=by
 unfold zpS at h;split at h
 ·cases h;exact⟨rfl,rfl,rfl,by simp[lenO],rfl,rfl,fun cs cs' h1 h2=>by simp only[zaj]at*;rw[h1,h2,List.map_append]⟩
 ·split at h
  ·rename_i hk;simp only[kEq,decide_eq_true_eq]at hk;subst hk;cases h;exact⟨rfl,rfl,rfl,by simp[lenO],rfl,rfl,fun cs cs' h1 h2=>by simp only[zaj]at*;rw[h1,h2,List.map_append]⟩
  ·cases h
 ·cases h;exact⟨rfl,rfl,rfl,by simp[lenO],rfl,rfl,fun cs cs' h1 h2=>by simp only[zaj]at*;rw[h1,h2,List.map_append]⟩
 ·split at h
  ·rename_i hk;have hk:=Nat.eq_of_beq_eq_true hk;subst hk;cases h;exact⟨rfl,rfl,rfl,by simp[lenO],rfl,rfl,fun cs cs' h1 h2=>⟨by simp only[zaj]at h1 h2;rw[Zr,h1.1,h2.1];rfl,h1.2.append h2.2⟩⟩
  ·cases h
 ·cases h
theorem ObjRel_row{L:Lk}{R:Ro}{r:Res}{o:AO}{w:World}(hr:WC o=true):ObjRel L R r o w→RowAt w r (tyO o) (zOf o) (lenO o) (zaj L R o):=by
 intro h;cases o with
 |cells _ _=>cases hr
 |iter _ _=>cases hr
 |mp _=>cases hr
 |vals T z l=>exact RowAt.stable h.2 (fun _ _=>rfl) fun s hs=>⟨h.1,hs⟩
 |_=>exact h
section
variable {P : Program} {c : Base} {n : Nat} {R : Ro} {G : List Res} {st : St} {a : Act} {w : World}
theorem Vn(b off j:Nat):((⟨b,off,none⟩:Addr).add j)=⟨b,off+j,none⟩:=by unfold Addr.add;split<;>simp_all
theorem zmd{full:Bool}{k z:Nat}{V:Value}{C:List Value→Prop}(h:RoRow R full k V C)(hro:∀b o,R b=some o→w.heap[b]? =some o){tx e':TypeId}(hk:P.underlying tx=some (.slice e'))(hlen:∀seg,C seg→seg.length=k*z)
  (hone:∀seg,C seg→∀u∈seg,u.oneCell'=true) (h0:k=0→C []):∃news,C news∧Src P z tx V k news w:=by
 rcases h with⟨rfl,ad,cap,rfl,_⟩|⟨b,off,cap,cs,T,fr,seg,tl,rfl,_,_,hR,hd,hC⟩
 ·refine⟨[],h0 rfl,?_⟩;cases ad with
  |none=>exact Src.ofNil w hk cap
  |some x=>exact Src.ofSlice w hk x 0 cap [] (by simp) (by simp) (by simp)
 ·refine⟨seg,hC,Src.ofSlice w hk _ k cap seg (hlen seg hC) (fun j u hj=>?_) (hone seg hC)⟩;rw[Vn];simp only[World.cell?,hro _ _ hR];have h1:(cs.toList.drop off)[j]? =some u:=by rw[hd,List.getElem?_append_left (List.getElem?_eq_some_iff.1 hj).1];exact hj
  rw[List.getElem?_drop]at h1;simpa using h1
theorem zsx{r:Res}{T:TypeId}{k z:Nat}{C:List Value→Prop}(h:RowAt w r T z k C){tx e':TypeId}(hk:P.underlying tx=some (.slice e'))(hone:∀seg,C seg→∀u∈seg,u.oneCell'=true):
  ∃news,C news∧Src P z tx (yf r k) k news w:=by
 rcases h with⟨h1,rfl,h3,h4⟩|⟨h1,h2,h3,cs,tl,fr,h4,h5,h6,h7,h8⟩
 ·exact⟨[],h4,by rw[show yf r 0=.slice none 0 0 by simp[yf,h1]];exact Src.ofNil w hk 0⟩
 ·refine⟨cs,h5,?_⟩;rw[show yf r k=.slice (some ⟨r.b,0,none⟩) k r.cap by simp[yf,h1]];refine Src.ofSlice w hk _ k r.cap cs h6 (fun j u hj=>?_) (hone cs h5);rw[Vn];simp only[World.cell?,h4];have:=List.getElem?_append_left (l₂:=tl) (List.getElem?_eq_some_iff.1 hj).1;simpa using this.trans hj
theorem zqC{i:Nat}{o:AO}{r:Res}{V:Value}(ho:hget st.h i=some o)(hr:G[i]? =some r)(hV:Rel (look G st.h) R (.rw i) V):V=yf r (lenO o):=by
 obtain⟨f,h1,h2,h3⟩:=hV;rw[zO ho hr]at h1;cases h1;unfold yf;cases hv:r.virt with
 |true=>simp only[if_true];exact (h2 hv).2
 |false=>simp only[Bool.false_eq_true,if_false];exact h3 hv
theorem zi9(l:List UInt8):byteCells (bs l)=l.map u8V:=rfl
theorem zsD(F:Fit c n R G st a w){tx:TypeId}{x:AV}{X:Value}{o':AO}(h:zt2 P st.h tx x=some o')(hx:Rel (look G st.h) R x X):
  ∃news,zaj (look G st.h) R o' news∧Src P (zOf o') tx X (lenO o') news w:=by
 unfold zt2 at h;split at h
 ·rename_i l hk;cases h;have hx:X=.string (bs l):=hx;subst hx;have:=Src.ofString (P:=P) w hk (bs l);rw[zX,zi9]at this;exact⟨_,rfl,this⟩
 ·rename_i e' full l hk;cases h;exact zmd hx F.wrel.ro hk (fun seg hs=>by have hs:seg=_:=hs;rw[hs];simp[zOf]) (fun seg hs u hu=>by have hs:seg=_:=hs;rw[hs]at hu;obtain⟨_,_,rfl⟩:=List.mem_map.1 hu;rfl) (fun h0=>by have:l=[]:=List.length_eq_zero_iff.1 h0;subst this;rfl)
 ·rename_i e' full k l hk;cases h;exact zmd hx F.wrel.ro hk (fun seg hs=>by have hs:seg=_:=hs;rw[hs];simp[zOf]) (fun seg hs u hu=>by have hs:seg=_:=hs;rw[hs]at hu;obtain⟨_,_,rfl⟩:=List.mem_map.1 hu;rfl) (fun h0=>by have:l=[]:=List.length_eq_zero_iff.1 h0;subst this;rfl)
 ·rename_i e' full l hk;cases h;exact zmd hx F.wrel.ro hk (fun seg hs=>by have hs:seg=_:=hs;rw[hs];simp[zOf]) (fun seg hs u hu=>by have hs:seg=_:=hs;rw[hs]at hu;obtain⟨_,_,rfl⟩:=List.mem_map.1 hu;rfl) (fun h0=>by have:l=[]:=List.length_eq_zero_iff.1 h0;subst this;rfl)
 ·rename_i e' i hk;have own:∀{o:AO},hget st.h i=some o→WC o=true→(∀seg,zaj (look G st.h) R o seg→∀u∈seg,u.oneCell'=true)→∃news,zaj (look G st.h) R o news∧Src P (zOf o) tx X (lenO o) news w:=by intro o ho hro hone;obtain⟨r,hr,_,hob⟩:=F.look_live ho;have hV:=zqC ho hr hx;subst hV;exact zsx (ObjRel_row hro hob) hk hone
  split at h
  ·rename_i ho;cases h;exact own ho rfl (fun seg hs u hu=>by have hs:seg=_:=hs;rw[hs]at hu;obtain⟨_,_,rfl⟩:=List.mem_map.1 hu;rfl)
  ·rename_i ho;cases h;exact own ho rfl (fun seg hs u hu=>by have hs:seg=_:=hs;rw[hs]at hu;obtain⟨_,_,rfl⟩:=List.mem_map.1 hu;rfl)
  ·rename_i ho;cases h;exact own ho rfl (fun seg hs u hu=>by have hs:seg=_:=hs;rw[hs]at hu;obtain⟨_,_,rfl⟩:=List.mem_map.1 hu;rfl)
  ·cases h
 ·cases h
theorem zgs{L:Lk}{r:Res}{o:AO}(hr:WC o=true)(h:RowAt w r (tyO o) (zOf o) (lenO o) (zaj L R o))(L':Lk):ObjRel L' R r o w:=by
 cases o with
 |cells _ _=>cases hr
 |iter _ _=>cases hr
 |mp _=>cases hr
 |vals T z l=>
  have hids:idsL l=[]:=by
   rcases h with⟨_,_,_,h4⟩|⟨_,_,_,cs,_,_,_,h5,_⟩
   ·exact h4.1
   ·exact h5.1
  exact⟨hids,RowAt.stable h (fun _ _=>rfl) fun s hs=>zp (fun _ _ h=>h) z l s (by simp[hids]) hs.2⟩
 |_=>exact h
theorem zk6{L:Lk}{e:TypeId}{z:Nat}{o:AO}(h:zff P e z=some o):tyO o=e∧lenO o=0∧zaj L R o []:=by
 unfold zff at h;split at h
 ·cases h;exact⟨rfl,rfl,rfl⟩
 ·cases h;exact⟨rfl,rfl,rfl⟩
 ·cases h;exact⟨rfl,rfl,rfl⟩
 ·cases h;exact⟨rfl,rfl,rfl,rfl⟩
 ·cases h;exact⟨rfl,rfl,rfl,rfl⟩
 ·cases h
theorem zmV{b k:Nat}(h:zt b k=true):k*b≤140737488355328∧k≤maxLen:=by unfold zt at h;simp only[Bool.and_eq_true]at h;exact⟨Nat.le_of_ble_eq_true h.1,Nat.le_of_ble_eq_true h.2⟩
theorem zkN(F:Fit c n R G st a w){t tx ty:TypeId}{s x:AV}{V X:Value}{cc:Bool}{oi:Option Nat}{o2:AO}(h:zkO P st.h t tx s x=some (cc,oi,o2))(hcc:cc=true)(hs:Rel (look G st.h) R s V)(hx:Rel (look G st.h) R x X):
  ∃r0 r' w',((oi=none∧r0.fp=[])∨∃j o,oi=some j∧hget st.h j=some o∧G[j]? =some r0)∧(Builtin.append_ #[t,tx] ty #[V,X]).run P w=.ok (yf r' (lenO o2)) w'∧Keeps r0.fp w w'∧(∀L',ObjRel L' R r' o2 w')∧
   (∀b∈r'.fp,b∈r0.fp∨w.heap.size≤b)∧(∀j,s=.rwp j→r'.virt=false∧1≤r'.cap):=by
 subst hcc;unfold zkO at h;split at h
 ·rename_i e ht;split at h
  ·rename_i i hi;split at h
   ·rename_i zv o' hz ho';split at h
    ·rename_i hzc hz1 hzo;have hzc:=Nat.eq_of_beq_eq_true hzc;have hz1:=Nat.le_of_ble_eq_true hz1;have hzo:=Nat.eq_of_beq_eq_true hzo;obtain⟨news,hn,hsrc⟩:=zsD (P:=P) F ho' hx;rw[hzo]at hsrc;have fin:∀{o:AO}{r0:Res},RowAt w r0 e i.size (lenO o) (zaj (look G st.h) R o)→zpS o o'=some o2→tyO o=e→V=yf r0 (lenO o)→zt i.bytes (lenO o2)=true→
       ∃r' w',(Builtin.append_ #[t,tx] ty #[V,X]).run P w=.ok (yf r' (lenO o2)) w'∧Keeps r0.fp w w'∧(∀L',ObjRel L' R r' o2 w')∧(∀b∈r'.fp,b∈r0.fp∨w.heap.size≤b)∧(r0.virt=false→1≤r0.cap→r'.virt=false∧1≤r'.cap):=by
      intro o r0 hrow hcat hty hV hok;obtain⟨c1,c2,c3,c4,c5,c6,c7⟩:=catA_ok (L:=look G st.h) (R:=R) hcat;obtain⟨g1,g2⟩:=zmV hok;rw[c4]at g1 g2;obtain⟨r',w',q1,q2,q3,q4,q5⟩:=znB (ty:=ty) hrow ht hi hz rfl hzc hz1 hsrc g2 g1;subst hV;rw[c4];refine⟨r',w',q1,q2,zgs (L:=look G st.h) c6 ?_,q4,q5⟩;rw[c1,c2,←c3,hzo,c4,hty];exact q3.stable (fun _ _=>rfl) fun cs ⟨cs0,k1,k2⟩=>by rw[k2];exact c7 _ _ k1 hn
     split at h
     ·split at h
      ·rename_i o he;split at h
       ·rename_i o3 hcat;simp only[Option.some.injEq,Prod.mk.injEq]at h;obtain⟨hok,rfl,rfl⟩:=h;obtain⟨e1,e2,e3⟩:=zk6 (L:=look G st.h) (R:=R) he;obtain⟨r',w',q1,q2,q3,q4,_⟩:=fin (o:=o) (r0:=⟨0,true,0,[]⟩) (.inl ⟨rfl,e2,rfl,e3⟩) hcat e1 (by have hs:V=_:=hs;rw[hs];simp[yf]) hok;exact⟨_,r',w',.inl ⟨rfl,rfl⟩,q1,q2,q3,q4,fun _ h=>by cases h⟩
       ·cases h
      ·cases h
     ·rename_i j;split at h
      ·rename_i o ho;split at h
       ·rename_i o3 hcat hty;simp only[Option.some.injEq,Prod.mk.injEq]at h;obtain⟨hok,rfl,rfl⟩:=h;have hty:=Nat.eq_of_beq_eq_true hty;obtain⟨c1,c2,c3,c4,c5,c6,c7⟩:=catA_ok (L:=look G st.h) (R:=R) hcat;obtain⟨r,hr,_,hob⟩:=F.look_live ho;have hrow:=ObjRel_row c5 hob;rw[hty,←c3,hzo]at hrow;obtain⟨r',w',q1,q2,q3,q4,_⟩:=fin hrow hcat hty (zqC ho hr hs) hok;exact⟨r,r',w',.inr ⟨j,o,rfl,ho,hr⟩,q1,q2,q3,q4,fun _ h=>by cases h⟩
       ·cases h
      ·cases h
     ·rename_i j;split at h
      ·rename_i o ho;split at h
       ·rename_i o3 hcat hty;simp only[Option.some.injEq,Prod.mk.injEq]at h;obtain⟨hok,rfl,rfl⟩:=h;have hty:=Nat.eq_of_beq_eq_true hty;obtain⟨c1,c2,c3,c4,c5,c6,c7⟩:=catA_ok (L:=look G st.h) (R:=R) hcat;obtain⟨r,hr,hlk,hob⟩:=F.look_live ho;have hrow:=ObjRel_row c5 hob;rw[hty,←c3,hzo]at hrow;obtain⟨f,g1,g2,g3,g4⟩:=hs;rw[hlk]at g1;cases g1;obtain⟨r',w',q1,q2,q3,q4,q5⟩:=fin hrow hcat hty (by rw[g4];unfold yf;rw[if_neg (by simpa using g2)]) hok;exact⟨r,r',w',.inr ⟨j,o,rfl,ho,hr⟩,q1,q2,q3,q4,fun _ _=>q5 g2 g3⟩
       ·cases h
      ·cases h
     ·cases h
    ·cases h
   ·cases h
  ·cases h
 ·cases h
end
theorem zhc{P:Program}{h:Heap}{t tx:TypeId}{s x:AV}{cc:Bool}{oi:Option Nat}{o2:AO}(hg:zkO P h t tx s x=some (cc,oi,o2)):WC o2=true:=by
 unfold zkO at hg
 repeat' split at hg
 all_goals first
  |(cases hg;done)
  |(
   rename_i hcat;simp only[Option.some.injEq,Prod.mk.injEq]at hg;obtain⟨_,_,rfl⟩:=hg;first
    |exact (catA_ok (L:=fun _=>none) (R:=fun _=>none) (by assumption)).2.2.2.2.2.1)
end Go.Am
