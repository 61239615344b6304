/-
  A part of the proof of the laws.
-/
import Derived.Test.YtckmndepnihanaaGreatDoorAm20
namespace Go.Am
open Go Go.RowKit Go.Vc
def J8:AO→Bool
 |.bytes _ _|.ints _ _ _|.strs _ _|.vals _ _ _|.gens _ _ _ _ _=>true
 |_=>false
def JR(L:Lk)(R:Ro):AO→List Value→Prop
 |.bytes _ l,cs=>cs=l.map u8V
 |.ints _ k l,cs=>cs=l.map (Value.int k)
 |.strs _ l,cs=>cs=l.map fun s=>Value.string (bs s)
 |.vals _ z l,cs=>idsL l=[]∧RelR L R z l cs
 |.gens _ _ _ _ l,cs=>RelL L R l cs
 |_,_=>False
theorem RelR.append{L:Lk}{R:Ro}{z:Nat}:∀{l l':List AV}{a b:List Value},RelR L R z l a→RelR L R z l' b→RelR L R z (l++l') (a++b)
 |[],_,_,_,h,h'=>by have h:_=[]:=h;subst h;exact h'
 |v::r,l',a,b,h,h'=>by
  cases v with
  |agg cs=>obtain⟨x,y,rfl,h1,h2,h3⟩:=h;exact⟨x,y++b,by simp,h1,h2,RelR.append h3 h'⟩
  |_=>obtain⟨u,us,rfl,h1,h2,h3,h4⟩:=h;exact⟨u,us++b,rfl,h1,h2,h3,RelR.append h4 h'⟩
theorem qC{L:Lk}{R:Ro}{z:Nat}:∀{l:List AV}{cs:List Value},RelR L R z l cs→RelL L R (zan l) cs
 |[],_,h=>h
 |x::r,cs,hr=>by
  cases x with
  |agg xs=>obtain⟨a,b,rfl,h2,h3,h4⟩:=hr;exact h3.append (qC h4)
  |_=>obtain⟨u,us,h1,h2,h3,h4,h5⟩:=hr;exact⟨u,us,h1,h4,qC h5⟩
theorem catA_ok{L:Lk}{R:Ro}{o o' o2:AO}(h:zjf o o'=some o2):tyO o2=tyO o∧zOf o2=zOf o∧zOf o'=zOf o∧lenO o2=lenO o+lenO o'∧J8 o=true∧J8 o2=true∧(∀cs cs',JR L R o cs→JR L R o' cs'→JR L R o2 (cs++cs')):=by
 unfold zjf at h;split at h
 ·cases h;exact⟨rfl,rfl,rfl,by simp[lenO],rfl,rfl,fun cs cs' h1 h2=>by simp only[JR]at*;rw[h1,h2,List.map_append]⟩
 ·split at h
  ·rename_i hk;simp only[kEq,decide_eq_true_eq]at hk;subst hk;cases h;exact⟨rfl,rfl,rfl,by simp[lenO],rfl,rfl,fun cs cs' h1 h2=>by simp only[JR]at*;rw[h1,h2,List.map_append]⟩
  ·cases h
 ·cases h;exact⟨rfl,rfl,rfl,by simp[lenO],rfl,rfl,fun cs cs' h1 h2=>by simp only[JR]at*;rw[h1,h2,List.map_append]⟩
 ·split at h
  ·rename_i hk;have hk:=Nat.eq_of_beq_eq_true hk;subst hk;cases h;exact⟨rfl,rfl,rfl,by simp[lenO],rfl,rfl,fun cs cs' h1 h2=>⟨by simp only[JR]at h1 h2;rw[yn,h1.1,h2.1];rfl,h1.2.append h2.2⟩⟩
  ·cases h
 ·split at h
  ·rename_i hk;have hk:=Nat.eq_of_beq_eq_true hk;subst hk;cases h;exact⟨rfl,rfl,rfl,rfl,rfl,rfl,fun cs cs' h1 h2=>RelL.append h1 h2⟩
  ·cases h
 ·split at h
  ·rename_i hk;have hk:=Nat.eq_of_beq_eq_true hk;subst hk;cases h;exact⟨rfl,rfl,rfl,rfl,rfl,rfl,fun cs cs' h1 h2=>RelL.append h1 (qC h2.2)⟩
  ·cases h
 ·split at h
  ·rename_i hk;have hk:=Nat.eq_of_beq_eq_true hk;subst hk;cases h;exact⟨rfl,rfl,rfl,rfl,rfl,rfl,fun cs cs' h1 h2=>RelL.append (qC h1.2) h2⟩
  ·cases h
 ·cases h
theorem ObjRel_row{L:Lk}{R:Ro}{r:Res}{o:AO}{w:World}(hr:J8 o=true):ObjRel L R r o w→RowAt w r (tyO o) (zOf o) (lenO o) (JR L R o):=by
 intro h;cases o with
 |cells _ _=>cases hr
 |iter _ _=>cases hr
 |mp _=>cases hr
 |vals T z l=>exact RowAt.stable h.2 (fun _ _=>rfl) fun s hs=>⟨h.1,hs⟩
 |_=>exact h
section
variable {P : Program} {c : Base} {n : Nat} {R : Ro} {G : List Res} {st : St} {a : Act} {w : World}
theorem JD(b off j:Nat):((⟨b,off,none⟩:Addr).add j)=⟨b,off+j,none⟩:=by unfold Addr.add;split<;>simp_all
theorem zpp{i:Nat}{o:AO}{r:Res}{V:Value}(ho:hget st.h i=some o)(hr:G[i]? =some r)(hV:Rel (look G st.h) R (.rw i) V):V=ye r (lenO o):=by
 obtain⟨f,h1,h2,h3⟩:=hV;rw[zW ho hr]at h1;cases h1;unfold ye;cases hv:r.virt with
 |true=>simp only[if_true];exact (h2 hv).2
 |false=>simp only[Bool.false_eq_true,if_false];exact h3 hv
theorem zhJ(l:List UInt8):byteCells (bs l)=l.map u8V:=rfl
def zjA(news:List Value):Prop:=∀u∈news,u.oneCell'=true
theorem zaN{full:Bool}{k z:Nat}{V:Value}{C:List Value→Prop}(h:RoRow R full k V C)(hro:∀b o,R b=some o→w.heap[b]? =some o){tx e':TypeId}(hk:P.underlying tx=some (.slice e'))(hlen:∀seg,C seg→seg.length=k*z)
  (h0:k=0→C []):∃news,C news∧(zjA news→Src P z tx V k news w):=by
 rcases h with⟨rfl,ad,cap,rfl,_⟩|⟨b,off,cap,cs,T,fr,seg,tl,rfl,_,_,hR,hd,hC⟩
 ·refine⟨[],h0 rfl,fun _=>?_⟩;cases ad with
  |none=>exact Src.ofNil w hk cap
  |some x=>exact Src.ofSlice w hk x 0 cap [] (by simp) (by simp) (by simp)
 ·refine⟨seg,hC,fun hone=>Src.ofSlice w hk _ k cap seg (hlen seg hC) (fun j u hj=>?_) hone⟩;rw[JD];simp only[World.cell?,hro _ _ hR];have h1:(cs.toList.drop off)[j]? =some u:=by rw[hd,List.getElem?_append_left (List.getElem?_eq_some_iff.1 hj).1];exact hj
  rw[List.getElem?_drop]at h1;simpa using h1
theorem zoa{r:Res}{T:TypeId}{k z:Nat}{C:List Value→Prop}(h:RowAt w r T z k C){tx e':TypeId}(hk:P.underlying tx=some (.slice e')):
  ∃news,C news∧(zjA news→Src P z tx (ye r k) k news w):=by
 rcases h with⟨h1,rfl,h3,h4⟩|⟨h1,h2,h3,cs,tl,fr,h4,h5,h6,h7,h8⟩
 ·exact⟨[],h4,fun _=>by rw[show ye r 0=.slice none 0 0 by simp[ye,h1]];exact Src.ofNil w hk 0⟩
 ·refine⟨cs,h5,fun hone=>?_⟩;rw[show ye r k=.slice (some ⟨r.b,0,none⟩) k r.cap by simp[ye,h1]];refine Src.ofSlice w hk _ k r.cap cs h6 (fun j u hj=>?_) hone;rw[JD];simp only[World.cell?,h4];have:=List.getElem?_append_left (l₂:=tl) (List.getElem?_eq_some_iff.1 hj).1;simpa using this.trans hj
theorem zn9{r:Res}{T:TypeId}{k z:Nat}{C D:List Value→Prop}{f:Info}(h:RowAt w r T z k C)(hf:f=⟨r.b,r.virt,r.cap,k⟩){p q:Int}{V:Value}(hV:zmL f z p q V){tx e':TypeId}(hk:P.underlying tx=some (.slice e'))
  (hC:∀seg,C seg→D ((seg.drop (p.toNat*z)).take (q.toNat*z))) (h0:q.toNat=0→D []):∃news,D news∧(zjA news→Src P z tx V q.toNat news w):=by
 subst hf;obtain⟨p1,p2,p3,ad,cap,rfl,p4,p5⟩:=hV;have p3:p+q≤(k:Int):=p3;by_cases hq:q.toNat=0
 ·rw[hq];refine⟨[],h0 hq,fun _=>?_⟩;cases ad with
  |none=>exact Src.ofNil w hk cap
  |some x=>exact Src.ofSlice w hk x 0 cap [] (by simp) (by simp) (by simp)
 ·obtain⟨hv,rfl⟩:=p5 (by omega);have hv:r.virt=false:=hv;rcases h with⟨h1,_⟩|⟨h1,h2,h3,cs,tl,fr,h4,h5,h6,h7,h8⟩
  ·rw[hv]at h1;cases h1
  ·have hm:(p.toNat+q.toNat)*z≤k*z:=Nat.mul_le_mul_right z (by omega);rw[Nat.add_mul]at hm;refine⟨_,hC cs h5,fun hone=>Src.ofSlice w hk _ _ cap _ (by simp;omega) (fun j u hj=>?_) hone⟩;rw[JD];rw[List.getElem?_take]at hj;split at hj
   ·rw[List.getElem?_drop]at hj;simp only[World.cell?,h4];have:=List.getElem?_append_left (l₂:=tl) (List.getElem?_eq_some_iff.1 hj).1;simpa using this.trans hj
   ·cases hj
theorem zmn{L:Lk}{cs:List AV}{seg:List Value}(h:RelL L R cs seg)(ho:cs.all zJ=true):zjA seg:=by
 intro u hu;obtain⟨vs,e1,e2,e3⟩:=Rel.cells (v:=.agg cs) (V:=.agg seg.toArray) ⟨seg,rfl,h⟩ (by simpa[cellsA]using ho);have e1:seg.toArray=vs.toArray:=e1;have e1:seg=vs:=by simpa using e1
 subst e1;have:=List.all_eq_true.1 e3 u hu;cases u<;>simp_all[yG,Value.oneCell']
theorem zm7{P:Program}{h:Heap}{tx:TypeId}{x:AV}{o:AO}(e:zm8 P h tx x=some o):zvf P h tx x=some o∧∀T ag z n cs,o=.gens T ag z n cs→cs.all zJ=true:=by
 unfold zm8 at e;split at e
 ·rename_i T ag z n cs ho;cases hb:cs.all zJ with
  |false=>rw[hb]at e;cases e
  |true=>rw[hb]at e;cases e;exact⟨ho,fun _ _ _ _ _ h=>by cases h;exact hb⟩
 ·rename_i hno;exact⟨e,fun T ag z n cs h=>by subst h;exact (hno T ag z n cs e).elim⟩
theorem zq5{L:Lk}{o:AO}(h:Xe o=true)(hg:∀T ag z n cs,o=.gens T ag z n cs→cs.all zJ=true):∀news,JR L R o news→zjA news:=by
 intro news hn;cases o with
 |bytes T l=>intro u hu;have hn:news=_:=hn;rw[hn]at hu;obtain⟨_,_,rfl⟩:=List.mem_map.1 hu;rfl
 |ints T k l=>intro u hu;have hn:news=_:=hn;rw[hn]at hu;obtain⟨_,_,rfl⟩:=List.mem_map.1 hu;rfl
 |strs T l=>intro u hu;have hn:news=_:=hn;rw[hn]at hu;obtain⟨_,_,rfl⟩:=List.mem_map.1 hu;rfl
 |vals T z l=>exact zmn (qC hn.2) h
 |gens T ag z k cs=>exact zmn hn (hg _ _ _ _ _ rfl)
 |_=>exact hn.elim
theorem zkm{o:AO}(h:lenO o=0):Xe o=true:=by
 cases o with
 |vals T z l=>have:l=[]:=List.length_eq_zero_iff.1 h;subst this;rfl
 |_=>rfl
theorem Ze{α:Type}(l:List α){a n:Int}(h1:0≤a)(h2:0≤n):subL l a (a+n)=(l.drop a.toNat).take n.toNat:=by unfold subL;rw[List.drop_take];congr 1;omega
theorem W7{L:Lk}{z:Nat}:∀(i:Nat){l:List AV}{cs:List Value},RelR L R z l cs→RelR L R z (l.drop i) (cs.drop (i*z))
 |0,l,cs,h=>by simpa using h
 |i+1,[],cs,h=>by have h:cs=[]:=h;subst h;simp[RelR]
 |i+1,x::r,cs,hr=>by
  have key:(∃a b,cs=a++b∧a.length=z∧RelR L R z r b):=by
   cases x with
   |agg xs=>obtain⟨a,b,h1,h2,h3,h4⟩:=hr;exact⟨a,b,h1,by rw[←h3.length,h2],h4⟩
   |_=>obtain⟨u,us,h1,h2,h3,h4,h5⟩:=hr;exact⟨[u],us,h1,by simp[h2],h5⟩
  obtain⟨a,b,rfl,h2,h3⟩:=key;have:=W7 i h3;rw[List.drop_succ_cons,Nat.succ_mul,Nat.add_comm,←List.drop_drop,←h2,List.drop_left,h2];exact this
theorem Q9{L:Lk}{z:Nat}:∀(i:Nat){l:List AV}{cs:List Value},RelR L R z l cs→RelR L R z (l.take i) (cs.take (i*z))
 |0,l,cs,h=>by simp[RelR]
 |i+1,[],cs,h=>by have h:cs=[]:=h;subst h;simp[RelR]
 |i+1,x::r,cs,hr=>by
  cases x with
  |agg xs=>
   obtain⟨a,b,rfl,h2,h3,h4⟩:=hr;have ha:a.length=z:=by rw[←h3.length,h2]
   rw[List.take_succ_cons,Nat.succ_mul,Nat.add_comm,←ha,List.take_length_add_append,ha];exact⟨a,_,rfl,h2,h3,Q9 i h4⟩
  |_=>obtain⟨u,us,rfl,rfl,h3,h4,h5⟩:=hr;have:=Q9 i h5;rw[Nat.mul_one]at this;rw[Nat.mul_one,List.take_succ_cons,List.take_succ_cons];exact⟨u,_,rfl,rfl,h3,h4,this⟩
theorem Jr{l:List AV}(h:idsL l=[])(i j:Nat):idsL ((l.drop i).take j)=[]:=by rw[←List.take_append_drop i l,yn,List.append_eq_nil_iff]at h;have h2:=h.2;rw[←List.take_append_drop j (l.drop i),yn,List.append_eq_nil_iff]at h2;exact h2.1
theorem Qf{L:Lk}{R:Ro}{e:TypeId}{z:Nat}{o:AO}(h:Qg P e z=some o):tyO o=e∧lenO o=0∧JR L R o []:=by
 unfold Qg at h;split at h
 ·cases h;exact⟨rfl,rfl,rfl⟩
 ·cases h;exact⟨rfl,rfl,rfl⟩
 ·cases h;exact⟨rfl,rfl,rfl⟩
 ·cases h;exact⟨rfl,rfl,rfl,rfl⟩
 ·cases h;exact⟨rfl,rfl,rfl,rfl⟩
 ·cases h;exact⟨rfl,rfl,rfl,rfl⟩
 ·cases h;exact⟨rfl,rfl,rfl,rfl⟩
 ·split at h
  ·cases h;exact⟨rfl,rfl,rfl⟩
  ·cases h
 ·cases h
theorem zve(F:Fit c n R G st a w){tx:TypeId}{x:AV}{X:Value}{o':AO}(h:zvf P st.h tx x=some o')(hx:Rel (look G st.h) R x X):
  ∃news,JR (look G st.h) R o' news∧(zjA news→Src P (zOf o') tx X (lenO o') news w):=by
 unfold zvf at h;split at h
 ·rename_i l hk;cases h;have hx:X=.string (bs l):=hx;subst hx;have:=Src.ofString (P:=P) w hk (bs l);rw[jc,zhJ]at this;exact⟨_,rfl,fun _=>this⟩
 ·rename_i e' full l hk;cases h;exact zaN hx F.wrel.ro hk (fun seg hs=>by have hs:seg=_:=hs;rw[hs];simp[zOf]) (fun h0=>by have:l=[]:=List.length_eq_zero_iff.1 h0;subst this;rfl)
 ·rename_i e' full k l hk;cases h;exact zaN hx F.wrel.ro hk (fun seg hs=>by have hs:seg=_:=hs;rw[hs];simp[zOf]) (fun h0=>by have:l=[]:=List.length_eq_zero_iff.1 h0;subst this;rfl)
 ·rename_i e' full l hk;cases h;exact zaN hx F.wrel.ro hk (fun seg hs=>by have hs:seg=_:=hs;rw[hs];simp[zOf]) (fun h0=>by have:l=[]:=List.length_eq_zero_iff.1 h0;subst this;rfl)
 ·rename_i e' full z l hk;cases h;obtain⟨h0,hx⟩:=hx;obtain⟨news,h1,h2⟩:=zaN (P:=P) (z:=z) hx F.wrel.ro hk (fun seg hs=>ZN hs) (fun h0=>by have:l=[]:=List.length_eq_zero_iff.1 h0;subst this;rfl);exact⟨news,⟨h0,h1⟩,h2⟩
 ·rename_i e' hk;split at h
  ·rename_i z hz;obtain⟨_,e2,e3⟩:=Qf (L:=look G st.h) (R:=R) h;have hx:X=.slice none 0 0:=hx;subst hx;refine⟨[],e3,fun _=>?_⟩;rw[e2];exact Src.ofNil w hk 0
  ·cases h
 ·rename_i e' i hk;have own:∀{o:AO},hget st.h i=some o→J8 o=true→∃news,JR (look G st.h) R o news∧(zjA news→Src P (zOf o) tx X (lenO o) news w):=by intro o ho hro;obtain⟨r,hr,_,hob⟩:=F.look_live ho;have hV:=zpp ho hr hx;subst hV;exact zoa (ObjRel_row hro hob) hk
  split at h
  ·rename_i ho;cases h;exact own ho rfl
  ·rename_i ho;cases h;exact own ho rfl
  ·rename_i ho;cases h;exact own ho rfl
  ·rename_i ho;cases h;exact own ho rfl
  ·rename_i ho;cases h;exact own ho rfl
  ·cases h
 ·rename_i e' i z p q hk;obtain⟨f,g1,hV⟩:=hx;have part:∀{o o2:AO},hget st.h i=some o→J8 o=true→zOf o=z→zOf o2=z→lenO o2=q.toNat→(∀seg,JR (look G st.h) R o seg→JR (look G st.h) R o2 ((seg.drop (p.toNat*z)).take (q.toNat*z)))→
    (q.toNat=0→JR (look G st.h) R o2 [])→∃news,JR (look G st.h) R o2 news∧(zjA news→Src P (zOf o2) tx X (lenO o2) news w):=by
   intro o o2 ho hro hz hz2 hl hC h0;obtain⟨r,hr,hlk,hob⟩:=F.look_live ho;rw[g1]at hlk;have hrow:=ObjRel_row hro hob;rw[hz]at hrow;rw[hz2,hl];exact zn9 hrow (Option.some.inj hlk) hV hk hC h0
  have p1:=hV.1;have p2:=hV.2.1;have p3:=hV.2.2.1;have lenOf:∀{o:AO},hget st.h i=some o→p+q≤(lenO o:Int):=by intro o ho;obtain⟨r,hr,hlk,_⟩:=F.look_live ho;rw[g1]at hlk;cases hlk;exact p3
  split at h
  ·rename_i T l ho;split at h
   ·rename_i hz;obtain rfl:=Nat.eq_of_beq_eq_true hz;cases h;have hl:p+q≤(l.length:Int):=lenOf ho;rw[Ze l p1 p2];refine part ho rfl rfl rfl (by show List.length _=_;rw[List.length_take,List.length_drop];omega) (fun seg hs=>?_) (fun h0=>by show[]=List.map _ _;rw[h0];rfl);have hs:seg=_:=hs;rw[hs];show _=List.map _ _;simp[List.map_take,List.map_drop]
   ·cases h
  ·rename_i T k l ho;split at h
   ·rename_i hz;obtain rfl:=Nat.eq_of_beq_eq_true hz;cases h;have hl:p+q≤(l.length:Int):=lenOf ho;rw[Ze l p1 p2];refine part ho rfl rfl rfl (by show List.length _=_;rw[List.length_take,List.length_drop];omega) (fun seg hs=>?_) (fun h0=>by show[]=List.map _ _;rw[h0];rfl);have hs:seg=_:=hs;rw[hs];show _=List.map _ _;simp[List.map_take,List.map_drop]
   ·cases h
  ·rename_i T l ho;split at h
   ·rename_i hz;obtain rfl:=Nat.eq_of_beq_eq_true hz;cases h;have hl:p+q≤(l.length:Int):=lenOf ho;rw[Ze l p1 p2];refine part ho rfl rfl rfl (by show List.length _=_;rw[List.length_take,List.length_drop];omega) (fun seg hs=>?_) (fun h0=>by show[]=List.map _ _;rw[h0];rfl);have hs:seg=_:=hs;rw[hs];show _=List.map _ _;simp[List.map_take,List.map_drop]
   ·cases h
  ·rename_i T z' l ho;split at h
   ·rename_i hz;obtain rfl:=Nat.eq_of_beq_eq_true hz;cases h;have hl:p+q≤(l.length:Int):=lenOf ho;rw[Ze l p1 p2];refine part ho rfl rfl rfl (by show List.length _=_;rw[List.length_take,List.length_drop];omega) (fun seg hs=>⟨Jr hs.1 _ _,Q9 _ (W7 _ hs.2)⟩) (fun h0=>by rw[h0];exact⟨rfl,rfl⟩)
   ·cases h
  ·rename_i T ag z' k cs ho;split at h
   ·rename_i hz;obtain rfl:=Nat.eq_of_beq_eq_true hz;cases h;exact part ho rfl rfl rfl rfl (fun seg hs=>RelL.take (RelL.drop hs _) _) (fun h0=>by rw[h0,Nat.zero_mul];rfl)
   ·cases h
  ·cases h
 ·cases h
theorem zaP(F:Fit c n R G st a w){tx:TypeId}{x:AV}{X:Value}{o':AO}(h:zm8 P st.h tx x=some o')(h1:Xe o'=true)(hx:Rel (look G st.h) R x X):
  ∃news,JR (look G st.h) R o' news∧Src P (zOf o') tx X (lenO o') news w:=by
 obtain⟨h,hg⟩:=zm7 h;obtain⟨news,h3,h4⟩:=zve (P:=P) F h hx;exact⟨news,h3,h4 (zq5 h1 hg news h3)⟩
theorem Xn{L:Lk}{r:Res}{o:AO}(hr:J8 o=true)(h:RowAt w r (tyO o) (zOf o) (lenO o) (JR L R o))(L':Lk)(hL:∀i∈idsO o,∀f,L i=some f→L' i=some f):ObjRel L' R r o w:=by
 cases o with
 |cells _ _=>cases hr
 |iter _ _=>cases hr
 |mp _=>cases hr
 |vals T z l=>
  have hids:idsL l=[]:=by
   rcases h with⟨_,_,_,h4⟩|⟨_,_,_,cs,_,_,_,h5,_⟩
   ·exact h4.1
   ·exact h5.1
  exact⟨hids,RowAt.stable h (fun _ _=>rfl) fun s hs=>zq (fun _ _ h=>h) z l s (by simp[hids]) hs.2⟩
 |gens T ag z k l=>simp only[ObjRel];exact RowAt.stable h (fun _ _=>rfl) fun s hs=>zE (fun _ _ h=>h) l s hL hs
 |_=>exact h
theorem zdn{b k:Nat}(h:jJ b k=true):k*b≤140737488355328∧k≤maxLen:=by unfold jJ at h;simp only[Bool.and_eq_true]at h;exact⟨Nat.le_of_ble_eq_true h.1,Nat.le_of_ble_eq_true h.2⟩
theorem ziT(F:Fit c n R G st a w){t tx ty:TypeId}{s x:AV}{V X:Value}{cc:Bool}{oi:Option Nat}{o2:AO}(h:ziU P st.h t tx s x=some (cc,oi,o2))(hcc:cc=true)(hs:Rel (look G st.h) R s V)(hx:Rel (look G st.h) R x X):
  ∃r0 r' w',((oi=none∧r0.fp=[])∨∃j o,oi=some j∧hget st.h j=some o∧G[j]? =some r0)∧(Builtin.append_ #[t,tx] ty #[V,X]).run P w=.ok (ye r' (lenO o2)) w'∧Keeps r0.fp w w'∧(∀L',(∀q∈idsO o2,∀f,look G st.h q=some f→L' q=some f)→ObjRel L' R r' o2 w')∧
   (∀b∈r'.fp,b∈r0.fp∨w.heap.size≤b)∧(∀j,s=.rwp j→r'.virt=false∧1≤r'.cap):=by
 subst hcc;unfold ziU at h;split at h
 ·rename_i e ht;split at h
  ·rename_i i hi;split at h
   ·rename_i zv o' hz ho';split at h
    ·rename_i hzc hz1 hzo;have hzc:=Nat.eq_of_beq_eq_true hzc;have hz1:=Nat.le_of_ble_eq_true hz1;have hzo:=Nat.eq_of_beq_eq_true hzo;have hone:Xe o'=true:=by
      cases ho:Xe o' with
      |true=>rfl
      |false=>
       exfalso;rw[ho]at h
       repeat' split at h
       all_goals first|(cases h;done)|(simp only[Bool.false_and,Option.some.injEq,Prod.mk.injEq,Bool.false_eq_true,false_and]at h)
     rw[hone]at h;simp only[Bool.true_and]at h;obtain⟨news,hn,hsrc⟩:=zaP (P:=P) F ho' hone hx;rw[hzo]at hsrc;have fin:∀{o:AO}{r0:Res},RowAt w r0 e i.size (lenO o) (JR (look G st.h) R o)→zjf o o'=some o2→tyO o=e→V=ye r0 (lenO o)→jJ i.bytes (lenO o2)=true→
       ∃r' w',(Builtin.append_ #[t,tx] ty #[V,X]).run P w=.ok (ye r' (lenO o2)) w'∧Keeps r0.fp w w'∧(∀L',(∀q∈idsO o2,∀f,look G st.h q=some f→L' q=some f)→ObjRel L' R r' o2 w')∧(∀b∈r'.fp,b∈r0.fp∨w.heap.size≤b)∧(r0.virt=false→1≤r0.cap→r'.virt=false∧1≤r'.cap):=by
      intro o r0 hrow hcat hty hV hok;obtain⟨c1,c2,c3,c4,c5,c6,c7⟩:=catA_ok (L:=look G st.h) (R:=R) hcat;obtain⟨g1,g2⟩:=zdn hok;rw[c4]at g1 g2;obtain⟨r',w',q1,q2,q3,q4,q5⟩:=zlg (ty:=ty) hrow ht hi hz rfl hzc hz1 hsrc g2 g1;subst hV;rw[c4];refine⟨r',w',q1,q2,fun L' hL'=>Xn (L:=look G st.h) c6 ?_ L' hL',q4,q5⟩;rw[c1,c2,←c3,hzo,c4,hty];exact q3.stable (fun _ _=>rfl) fun cs ⟨cs0,k1,k2⟩=>by rw[k2];exact c7 _ _ k1 hn
     split at h
     ·split at h
      ·rename_i o he;split at h
       ·rename_i o3 hcat;simp only[Option.some.injEq,Prod.mk.injEq]at h;obtain⟨hok,rfl,rfl⟩:=h;obtain⟨e1,e2,e3⟩:=Qf (L:=look G st.h) (R:=R) he;obtain⟨r',w',q1,q2,q3,q4,_⟩:=fin (o:=o) (r0:=⟨0,true,0,[]⟩) (.inl ⟨rfl,e2,rfl,e3⟩) hcat e1 (by have hs:V=_:=hs;rw[hs];simp[ye]) hok;exact⟨_,r',w',.inl ⟨rfl,rfl⟩,q1,q2,q3,q4,fun _ h=>by cases h⟩
       ·cases h
      ·cases h
     ·rename_i j;split at h
      ·rename_i o ho;split at h
       ·rename_i o3 hcat hty;simp only[Option.some.injEq,Prod.mk.injEq]at h;obtain⟨hok,rfl,rfl⟩:=h;have hty:=Nat.eq_of_beq_eq_true hty;obtain⟨c1,c2,c3,c4,c5,c6,c7⟩:=catA_ok (L:=look G st.h) (R:=R) hcat;obtain⟨r,hr,_,hob⟩:=F.look_live ho;have hrow:=ObjRel_row c5 hob;rw[hty,←c3,hzo]at hrow;obtain⟨r',w',q1,q2,q3,q4,_⟩:=fin hrow hcat hty (zpp ho hr hs) hok;exact⟨r,r',w',.inr ⟨j,o,rfl,ho,hr⟩,q1,q2,q3,q4,fun _ h=>by cases h⟩
       ·cases h
      ·cases h
     ·rename_i j;split at h
      ·rename_i o ho;split at h
       ·rename_i o3 hcat hty;simp only[Option.some.injEq,Prod.mk.injEq]at h;obtain⟨hok,rfl,rfl⟩:=h;have hty:=Nat.eq_of_beq_eq_true hty;obtain⟨c1,c2,c3,c4,c5,c6,c7⟩:=catA_ok (L:=look G st.h) (R:=R) hcat;obtain⟨r,hr,hlk,hob⟩:=F.look_live ho;have hrow:=ObjRel_row c5 hob;rw[hty,←c3,hzo]at hrow;obtain⟨f,g1,g2,g3,g4⟩:=hs;rw[hlk]at g1;cases g1;obtain⟨r',w',q1,q2,q3,q4,q5⟩:=fin hrow hcat hty (by rw[g4];unfold ye;rw[if_neg (by simpa using g2)]) hok;exact⟨r,r',w',.inr ⟨j,o,rfl,ho,hr⟩,q1,q2,q3,q4,fun _ _=>q5 g2 g3⟩
       ·cases h
      ·cases h
     ·cases h
    ·cases h
   ·cases h
  ·cases h
 ·cases h
theorem ziW{L:Lk}{s s':AV}{V:Value}(h:fullV s=some s')(hs:Rel L R s V):Rel L R s' V∧∃ad k,V=.slice ad k k:=by
 have ro:∀{k:Nat}{C:List Value→Prop},RoRow R true k V C→∃ad k,V=.slice ad k k:=by
  intro k C h;rcases h with⟨rfl,ad,cap,rfl,hc⟩|⟨b,off,cap,cs,T,fr,seg,tl,rfl,hc,_⟩
  ·exact⟨ad,0,by rw[hc rfl]⟩
  ·exact⟨_,k,by rw[hc rfl]⟩
 unfold fullV at h;split at h<;>cases h
 ·obtain⟨f,h1,h2,h3,h4⟩:=hs;exact⟨⟨f,h1,(fun hv=>by rw[h2]at hv;cases hv),fun _=>h4⟩,_,f.len,by rw[h4,h3]⟩
 ·obtain⟨f,h1,h2,a,h3⟩:=hs;exact⟨⟨f,h1,h2⟩,a,_,h3⟩
 ·exact⟨hs,ro hs⟩
 ·exact⟨hs,ro hs⟩
 ·exact⟨hs,ro hs⟩
 ·exact⟨hs,ro hs.2⟩
theorem zrs(F:Fit c n R G st a w){t tx ty:TypeId}{s x:AV}{V X:Value}{cc:Bool}{o2:AO}(h:ziS P st.h t tx s x=some (true,cc,o2))(hcc:cc=true)(hs:Rel (look G st.h) R s V)(hx:Rel (look G st.h) R x X):
  ∃r' w',(Builtin.append_ #[t,tx] ty #[V,X]).run P w=.ok (ye r' (lenO o2)) w'∧Keeps [] w w'∧(∀L',(∀q∈idsO o2,∀f,look G st.h q=some f→L' q=some f)→ObjRel L' R r' o2 w')∧(∀b∈r'.fp,w.heap.size≤b)∧J8 o2=true:=by
 subst hcc;unfold ziS at h;split at h
 ·rename_i s' e hfull ht;split at h
  ·rename_i i hi;split at h
   ·rename_i zv o1 o' o0 hz ho1 ho' ho0;split at h
    ·rename_i oa hzc hz1 hzo hzo1 hcat;split at h
     ·rename_i o3 hcat2;simp only[Option.some.injEq,Prod.mk.injEq]at h;obtain⟨hm1,hok,ho32⟩:=h;rw[Bool.and_eq_true,Bool.and_eq_true]at hok;obtain⟨hone1,hone,hok⟩:=hok;subst o3;have hzc:=Nat.eq_of_beq_eq_true hzc;have hzo:=Nat.eq_of_beq_eq_true hzo;have hzo1:=Nat.eq_of_beq_eq_true hzo1;have hm1:=Nat.le_of_ble_eq_true hm1;obtain⟨hs',ad,k,rfl⟩:=ziW hfull hs;obtain⟨olds,p1,p2⟩:=zaP (P:=P) F ho1 hone1 hs';obtain⟨news,n1,n2⟩:=zaP (P:=P) F ho' hone hx;obtain⟨e1,e2,e3⟩:=Qf (P:=P) (L:=look G st.h) (R:=R) ho0;obtain⟨c1,c2,c3,c4,c5,c6,c7⟩:=catA_ok (L:=look G st.h) (R:=R) hcat;obtain⟨d1,d2,d3,d4,d5,d6,d7⟩:=catA_ok (L:=look G st.h) (R:=R) hcat2;obtain⟨g1,g2⟩:=zdn hok;have hk:lenO o1=k:=by have:=p2.len w;simp only[Builtin.lenOf]at this;cases this;rfl
      rw[hzo1,hk]at p2;rw[hzo]at n2;have hl3:lenO o2=k+lenO o':=by rw[d4,c4,e2,hk];omega
      rw[hl3]at g1 g2⊢;have hrun:=run_append_grow_src (P:=P) w t tx ty e i zv ht hi hz ad k k olds p2.cellsD X (lenO o') news n2 (by omega) (by simp only[maxLen]at g2;omega) (growslice_fits (by omega) g1);have hge:=grownCap_ge w (k+lenO o') k e;refine⟨⟨w.heap.size,false,grownCap w (k+lenO o') k e,[w.heap.size]⟩,_,hrun,?_,fun L' hL'=>Xn (L:=look G st.h) d6 ?_ L' hL',fun b hb=>by simp only[List.mem_singleton]at hb;omega,d6⟩
      ·exact .of_below (((Below.drew (Below.refl _ w))).alloc (Nat.le_refl _) _)
      ·have hz2:zOf o2=i.size:=by rw[d2,←d3,hzo]
       have ht2:tyO o2=e:=by rw[d1,c1,e1]
       rw[hz2,ht2,hl3];refine .inr ⟨rfl,rfl,hge,olds++news,(Builtin.zeroCells zv.cells (grownCap w (k+lenO o') k e-(k+lenO o'))).toList,(0,0),?_,d7 _ _ (by have:=c7 _ _ e3 p1;simpa using this) n1,?_,?_,Nat.le_refl _,fun j _ h2=>by omega⟩
       ·have e1:w.drew.heap.size=w.heap.size:=rfl;show(World.alloc _ _).heap[w.heap.size]? =_;rw[←e1,heap_alloc_new];congr 2;apply Array.ext';simp
       ·rw[List.length_append,p2.newsLen,n2.newsLen,Nat.add_mul]
       ·refine Nat.le_of_eq (Eq.symm ?_);rw[List.length_append,p2.newsLen,n2.newsLen,Array.length_toList,size_zeroCells,hzc,←Nat.add_mul,←Nat.add_mul];show _=grownCap w (k+lenO o') k e*i.size;congr 1;omega
     ·cases h
    ·cases h
   ·cases h
  ·cases h
 ·cases h
theorem zaC{t tx ty e:TypeId}{i:TypeInfo}(ht:P.underlying t=some (.slice e))(hi:P.info? e=some i){ad:Option Addr}{k:Nat}{x:Value}{news:List Value}(hs:Src P i.size tx x 0 news w):
  (Builtin.append_ #[t,tx] ty #[.slice ad k k,x]).run P w=.ok (.slice ad k k) w:=by
 have hn:news=[]:=List.eq_nil_of_length_eq_zero (by simpa using hs.newsLen);subst hn;have hc:=hs.cells;rcases hs.kind with⟨e',hk⟩|hk<;>cases ad<;>simp[Builtin.append_,run_underlying ht,run_underlying hk,sizeOf,typeInfo,hi,hs.len,hc,storeCells]
theorem zkz(F:Fit c n R G st a w){t tx ty:TypeId}{s x:AV}{V X:Value}{cc:Bool}{o2:AO}(h:ziS P st.h t tx s x=some (false,cc,o2))(hs:Rel (look G st.h) R s V)(hx:Rel (look G st.h) R x X):
  (Builtin.append_ #[t,tx] ty #[V,X]).run P w=.ok V w:=by
 unfold ziS at h;split at h
 ·rename_i s' e hfull ht;split at h
  ·rename_i i hi;split at h
   ·rename_i zv o1 o' o0 hz ho1 ho' ho0;split at h
    ·rename_i oa hzc hz1 hzo hzo1 hcat;split at h
     ·rename_i o3 hcat2;simp only[Option.some.injEq,Prod.mk.injEq]at h;obtain⟨hm1,_,_⟩:=h;have hzo:=Nat.eq_of_beq_eq_true hzo;have h0:lenO o'=0:=by
       rcases Nat.eq_zero_or_pos (lenO o')with h|h
       ·exact h
       ·rw[Nat.ble_eq_true_of_le h]at hm1;cases hm1
      obtain⟨hs',ad,k,rfl⟩:=ziW hfull hs;obtain⟨news,n1,n2⟩:=zaP (P:=P) F ho' (zkm h0) hx;rw[hzo,h0]at n2;exact zaC ht hi n2
     ·cases h
    ·cases h
   ·cases h
  ·cases h
 ·cases h
end
theorem ze3{P:Program}{h:Heap}{t tx:TypeId}{s x:AV}{cc:Bool}{oi:Option Nat}{o2:AO}(hg:ziU P h t tx s x=some (cc,oi,o2)):J8 o2=true:=by
 unfold ziU at hg
 repeat' split at hg
 all_goals first
  |(cases hg;done)
  |(
   rename_i hcat;simp only[Option.some.injEq,Prod.mk.injEq]at hg;obtain⟨_,_,rfl⟩:=hg;first
    |exact (catA_ok (L:=fun _=>none) (R:=fun _=>none) (by assumption)).2.2.2.2.2.1)
end Go.Am
