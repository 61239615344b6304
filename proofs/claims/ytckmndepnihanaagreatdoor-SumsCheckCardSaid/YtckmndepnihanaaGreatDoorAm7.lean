/-
  A part of the proof of the laws.
-/
import Derived.Test.YtckmndepnihanaaGreatDoorAm6
namespace Go.Am
open Go Go.RowKit Go.Vc
structure Fit(c:Base)(n:Nat)(R:Ro)(G:List Res)(st:St)(a:Act)(w:World):Prop where
 wrel:WRel R G st.h w
 since:Since c R G st.h w
 slots:∀t,Rel (look G st.h) R (get st.s t) (a.tmps.getD t undef)
 defers:a.defers=[]
 size:a.tmps.size=n
def zxu(h:Heap)(k:Nat):Prop:=∀i,k≤i→hget h i=none
def FreeR(h:Heap)(k q:Nat):Prop:=∀i,k≤i→i<k+q→hget h i=none
def ZO(k q:Nat)(h h':Heap):Prop:=∀i,¬(k≤i∧i<k+q)→hget h i=none→hget h' i=none
theorem jD{h:Heap}{i j:Nat}{o:Option AO}(hi:i<h.length):hget (h.set i o) j=if i=j then o else hget h j:=by
 unfold hget;rw[List.getElem?_set];by_cases hij:i=j
 ·subst hij;simp only[hi,if_true];cases o<;>rfl
 ·simp only[hij,if_false]
theorem ziR{h:Heap}{l:Heap}(hl:∀o∈l,o=none){j:Nat}:hget (h++l) j=hget h j:=by
 unfold hget;by_cases hj:j<h.length
 ·rw[List.getElem?_append_left hj]
 ·rw[List.getElem?_append_right (by omega),List.getElem?_eq_none (l:=h) (by omega)];cases hx:l[j-h.length]? with
  |none=>rfl
  |some o=>rw[hl o (List.mem_of_getElem? hx)]
theorem jb{s:Slots}{d:Nat}{v:AV}{t:Nat}:get (put d v s) t=if d=t then v else get s t:=by
 induction s with
 |nil=>
  simp only[put,get];split
  ·rename_i h;rw[if_pos (Nat.eq_of_beq_eq_true h)]
  ·rename_i h;rw[if_neg (fun e=>by subst e;simp at h)]
 |cons x r ih=>
  obtain⟨x,u⟩:=x;simp only[put];split
  ·rename_i h;have h:=Nat.eq_of_beq_eq_true h;subst h;simp only[get];split
   ·rename_i h2;rw[if_pos (Nat.eq_of_beq_eq_true h2)]
   ·rename_i h2;rw[if_neg (fun e=>by subst e;simp at h2)]
  ·rename_i h;split
   ·rw[get];split
    ·rename_i h2;rw[if_pos (Nat.eq_of_beq_eq_true h2)]
    ·rename_i h2;rw[if_neg (fun e=>by subst e;simp at h2)]
   ·simp only[get];split
    ·rename_i h2;have h2:=Nat.eq_of_beq_eq_true h2;subst h2;rw[if_neg (fun e=>by subst e;simp at h)]
    ·exact ih
theorem zru{a:Act}{d t n:Nat}{V:Value}(hs:a.tmps.size=n)(hd:Nat.blt d n=true):(a.put (some d) V).tmps.getD t undef=if d=t then V else a.tmps.getD t undef:=by
 have hd':d<a.tmps.size:=by
  rw[hs];have:d+1≤n:=by simpa[Nat.blt]using hd
  omega
 by_cases h:d=t
 ·subst h;simp[Act.put,hd']
 ·simp[Act.put,h,Array.getElem?_setIfInBounds_ne h]
section
variable {P : Program} {c : Base} {n : Nat} {R : Ro} {G : List Res} {st : St} {a : Act} {w w' : World}
theorem Fit.put(F:Fit c n R G st a w){d:Option Nat}(hd:VM n d=true){v:AV}{V:Value}(hv:Rel (look G st.h) R v V):Fit c n R G ⟨putO d v st.s,st.h⟩ (a.put d V) w:=by
 cases d with
 |none=>exact F
 |some d=>
  refine⟨F.wrel,F.since,fun t=>?_,F.defers,by simpa[Act.put]using F.size⟩;show Rel _ _ (get (Am.put d v st.s) t) _;rw[jb,zru F.size hd];split
  ·exact hv
  ·exact F.slots t
theorem Fit.look_live(F:Fit c n R G st a w){i:Nat}{o:AO}(ho:hget st.h i=some o):∃r,G[i]? =some r∧look G st.h i=some ⟨r.b,r.virt,r.cap,lenO o⟩∧ObjRel (look G st.h) R r o w:=by obtain⟨r,hr⟩:=F.wrel.res ⟨o,ho⟩;exact⟨r,hr,zW ho hr,F.wrel.obj i o r ho hr⟩
theorem Fit.keep(F:Fit c n R G st a w)(k:Keeps [] w w'):Fit c n R G st a w':=by
 obtain⟨h1,h2⟩:=yx (c:=c) (R':=R) (G':=G) (h':=st.h) (A:=[]) (Fr:=fun _=>False) F.wrel F.since k (by simp) (by simp) F.wrel.len (Nat.le_refl _) (fun i _ _=>⟨rfl,rfl⟩)
  (fun i o _ _ j _ f hf=>hf) (fun _ _ h=>h) (fun b o h1 h2=>by rw[h1]at h2;cases h2) (by simp) (by simp) (by simp)
 exact⟨h1,h2,F.slots,F.defers,F.size⟩
theorem Fit.fresh(F:Fit c n R G st a w){i:Nat}(hi:i<st.h.length)(hm:c.m≤i)(hn:hget st.h i=none){w':World}(hk:Keeps [] w w'){ao:AO}{r:Res}(hfp:∀b∈r.fp,w.heap.size≤b)
  (ho:∀L',(∀j f,look G st.h j=some f→L' j=some f)→ObjRel L' R r ao w'):
  Fit c n R (G.set i r) ⟨st.s,st.h.set i (some ao)⟩ a w'∧look (G.set i r) (st.h.set i (some ao)) i=some ⟨r.b,r.virt,r.cap,lenO ao⟩∧
   (∀j f,look G st.h j=some f→look (G.set i r) (st.h.set i (some ao)) j=some f):=by
 have hne:∀j,(∃o,hget st.h j=some o)→i≠j:=fun j ⟨o,ho⟩ e=>by subst e;rw[hn]at ho;cases ho
 have hG:∀j,i≠j→(G.set i r)[j]? =G[j]? :=fun j h=>by rw[List.getElem?_set,if_neg h]
 have hiG:i<G.length:=by rw[F.wrel.len];exact hi
 have hlk:∀j f,look G st.h j=some f→look (G.set i r) (st.h.set i (some ao)) j=some f:=by intro j f hf;obtain⟨o,r',h1,h2,rfl⟩:=zr hf;have:=hne j ⟨o,h1⟩;exact zW (by rw[jD hi,if_neg this];exact h1) (by rw[hG j this];exact h2)
 obtain⟨h1,h2⟩:=yx (c:=c) (R':=R) (G':=G.set i r) (h':=st.h.set i (some ao)) (A:=[i]) (Fr:=fun _=>False) F.wrel F.since hk (by simp) (by simp) (by simp[F.wrel.len]) (by simp)
  (fun j hj _=>by
   have hij:i≠j:=fun e=>hj (by simp[e])
   exact⟨by rw[jD hi,if_neg hij],hG j hij⟩)
  (fun j o _ _ k _ f hf=>hlk k f hf) (fun _ _ h=>h) (fun b o h1 h2=>by rw[h1]at h2;cases h2)
  (fun j o r' hj ho' hr'=>by
   simp only[List.mem_singleton]at hj;subst hj;rw[jD hi,if_pos rfl]at ho';rw[List.getElem?_set,if_pos rfl,if_pos hiG]at hr';cases ho';cases hr';refine⟨ho _ hlk,fun b hb=>?_⟩;have hb:=hfp b hb;refine⟨?_,.inr (.inr hb)⟩;cases hr:R b with
   |none=>rfl
   |some o=>have:=zL (F.wrel.ro _ _ hr);omega)
  (fun j k rj rk hjk hj hk=>by simp only[List.mem_singleton]at hj hk;exact absurd (hj.trans hk.symm) hjk)
  (fun j hj hjA _=>by simp only[List.mem_singleton]at hjA;subst hjA;omega)
 refine⟨⟨h1,h2,fun t=>zk (fun _ _ h=>h) _ _ (fun j _ f hf=>hlk j f hf) (F.slots t),F.defers,F.size⟩,?_,hlk⟩;exact zW (by rw[jD hi,if_pos rfl]) (by rw[List.getElem?_set,if_pos rfl,if_pos hiG])
theorem Fit.new(F:Fit c n R G st a w){i:Nat}(hi:i<st.h.length)(hm:c.m≤i)(hn:hget st.h i=none){ob:Obj}{ao:AO}{r:Res}(hfp:r.fp=[w.heap.size])
  (ho:∀L',(∀j f,look G st.h j=some f→L' j=some f)→ObjRel L' R r ao (w.alloc ob)):
  Fit c n R (G.set i r) ⟨st.s,st.h.set i (some ao)⟩ a (w.alloc ob)∧look (G.set i r) (st.h.set i (some ao)) i=some ⟨r.b,r.virt,r.cap,lenO ao⟩∧
   (∀j f,look G st.h j=some f→look (G.set i r) (st.h.set i (some ao)) j=some f):=
 F.fresh hi hm hn (Keeps.of_below ((Below.refl _ _).alloc (Nat.le_refl _) _)) (fun b hb=>by rw[hfp]at hb;simp only[List.mem_singleton]at hb;omega) ho
theorem Fit.write(F:Fit c n R G st a w){i:Nat}{o ao:AO}{r:Res}(ho:hget st.h i=some o)(hr:G[i]? =some r)(hl:lenO ao=lenO o)(hfp:r.fp=[r.b])(k:Keeps [r.b] w w')
  (hob:∀L',(∀j f,look G st.h j=some f→L' j=some f)→ObjRel L' R r ao w'):
  Fit c n R G ⟨st.s,st.h.set i (some ao)⟩ a w'∧(∀j f,look G st.h j=some f→look G (st.h.set i (some ao)) j=some f):=by
 have hi:i<st.h.length:=jh ⟨o,ho⟩;have hlk:∀j f,look G st.h j=some f→look G (st.h.set i (some ao)) j=some f:=by
  intro j f hf;obtain⟨o',r',h1,h2,rfl⟩:=zr hf;by_cases hij:i=j
  ·subst hij;rw[ho]at h1;cases h1;rw[←hl];exact zW (by rw[jD hi,if_pos rfl]) h2
  ·exact zW (by rw[jD hi,if_neg hij];exact h1) h2
 obtain⟨h1,h2⟩:=yx (c:=c) (R':=R) (G':=G) (h':=st.h.set i (some ao)) (A:=[i]) (Fr:=fun _=>False) F.wrel F.since k
  (fun b hb=>.inr ⟨i,r,by simp,⟨o,ho⟩,hr,by rw[hfp];exact hb⟩) (by simp) (by simp[F.wrel.len]) (by simp)
  (fun j hj _=>by
   have hij:i≠j:=fun e=>hj (by simp[e])
   exact⟨by rw[jD hi,if_neg hij],rfl⟩)
  (fun j o _ _ k _ f hf=>hlk k f hf) (fun _ _ h=>h) (fun b o h1 h2=>by rw[h1]at h2;cases h2)
  (fun j o' r' hj ho' hr'=>by simp only[List.mem_singleton]at hj;subst hj;rw[jD hi,if_pos rfl]at ho';rw[hr]at hr';cases ho';cases hr';exact⟨hob _ hlk,fun b hb=>⟨F.wrel.sepR j r ⟨o,ho⟩ hr b hb,.inr (.inl ⟨j,r,by simp,⟨o,ho⟩,hr,hb⟩)⟩⟩)
  (fun j k rj rk hjk hj hk=>by simp only[List.mem_singleton]at hj hk;exact absurd (hj.trans hk.symm) hjk)
  (fun j hj hjA _=>by simp only[List.mem_singleton]at hjA;subst hjA;rw[←F.since.same j hj ⟨o,ho⟩];have e1:=zW (G:=G) ho hr;rw[e1];exact hlk _ _ e1)
 exact⟨⟨h1,h2,fun t=>zk (fun _ _ h=>h) _ _ (fun j _ f hf=>hlk j f hf) (F.slots t),F.defers,F.size⟩,hlk⟩
theorem zfr(h:Heap):∀(k:Nat),wide h k=h++List.replicate k none
 |0=>by simp[wide]
 |k+1=>by rw[wide,zfr (h++[none]) k,List.append_assoc,List.replicate_succ];rfl
theorem Fit.wide(F:Fit c n R G st a w)(k:Nat):∃G',Fit c n R G' ⟨st.s,wide st.h k⟩ a w∧zxu (wide st.h k) st.h.length∧(wide st.h k).length=st.h.length+k:=by
 rw[zfr];have hh:∀j,hget (st.h++List.replicate k none) j=hget st.h j:=fun j=>ziR (fun o ho=>(List.mem_replicate.1 ho).2)
 have hlt:∀j,live st.h j→j<G.length:=fun j hj=>by rw[F.wrel.len];exact jh hj
 have hG:∀j,live st.h j→(G++List.replicate k (⟨0,false,0,[]⟩:Res))[j]? =G[j]? :=fun j hj=>List.getElem?_append_left (hlt j hj)
 have hlk:∀j f,look G st.h j=some f→look (G++List.replicate k (⟨0,false,0,[]⟩:Res)) (st.h++List.replicate k none) j=some f:=by intro j f hf;obtain⟨o',r',h1,h2,rfl⟩:=zr hf;exact zW ((hh j).trans h1) ((hG j ⟨o',h1⟩).trans h2)
 obtain⟨h1,h2⟩:=yx (c:=c) (R':=R) (G':=G++List.replicate k ⟨0,false,0,[]⟩) (h':=st.h++List.replicate k none) (X:=[]) (A:=[]) (Fr:=fun _=>False) F.wrel F.since (Keeps.refl _ _) (by simp) (by simp)
  (by simp[F.wrel.len]) (by simp) (fun j _ hj=>⟨hh j,hG j (by obtain⟨o,ho⟩:=hj;exact⟨o,(hh j)▸ho⟩)⟩) (fun j o _ _ k _ f hf=>hlk k f hf) (fun _ _ h=>h) (fun b o h1 h2=>by rw[h1]at h2;cases h2) (by simp) (by simp) (by simp)
 refine⟨_,⟨h1,h2,fun t=>zk (fun _ _ h=>h) _ _ (fun j _ f hf=>hlk j f hf) (F.slots t),F.defers,F.size⟩,fun j hj=>?_,by simp⟩;rw[hh];unfold hget;rw[List.getElem?_eq_none hj]
theorem X4{w:World}{r:Res}{T:TypeId}{z k:Nat}{C:List Value→Prop}(h:RowAt w r T z k C)(hv:r.virt=false):
  ∃cs tl fr,w.heap[r.b]? =some (.cells (cs++tl).toArray T fr)∧C cs∧cs.length=k*z:=by
 rcases h with⟨h1,_⟩|⟨_,_,_,cs,tl,fr,h1,h2,h3,_⟩
 ·rw[hv]at h1;cases h1
 ·exact⟨cs,tl,fr,h1,h2,h3⟩
theorem RelR_get{L:Lk}{R:Ro}{z:Nat}:∀{l:List AV}{cs:List Value},RelR L R z l cs→∀{i:Nat}{v:AV},l[i]? =some v→
  (∃xs,v=.agg xs∧xs.length=z∧RelL L R xs ((cs.drop (i*z)).take z))∨(zJ v=true∧z=1∧∃u,cs[i]? =some u∧Rel L R v u)
 |[],_,_,i,v,h=>by simp at h
 |x::r,cs,hr,i,v,h=>by
  have key:(∃xs a b,x=.agg xs∧cs=a++b∧xs.length=z∧RelL L R xs a∧RelR L R z r b)∨(∃u us,cs=u::us∧z=1∧zJ x=true∧Rel L R x u∧RelR L R z r us):=by
   cases x with
   |agg xs=>obtain⟨a,b,h1,h2,h3,h4⟩:=hr;exact .inl ⟨xs,a,b,rfl,h1,h2,h3,h4⟩
   |_=>obtain⟨u,us,h1,h2,h3,h4,h5⟩:=hr;exact .inr ⟨u,us,h1,h2,h3,h4,h5⟩
  rcases key with⟨xs,a,b,rfl,rfl,h2,h3,h4⟩|⟨u,us,rfl,rfl,h3,h4,h5⟩
  ·have ha:a.length=z:=by rw[←h3.length,h2]
   cases i with
   |zero=>simp only[List.getElem?_cons_zero,Option.some.injEq]at h;subst h;refine .inl ⟨xs,rfl,h2,?_⟩;rw[Nat.zero_mul,List.drop_zero,List.take_append_of_le_length (by omega),List.take_of_length_le (by omega)];exact h3
   |succ i=>
    simp only[List.getElem?_cons_succ]at h;have hd:((a++b).drop ((i+1)*z))=b.drop (i*z):=by rw[Nat.succ_mul,Nat.add_comm,←List.drop_drop,←ha,List.drop_left]
    rcases RelR_get h4 h with⟨ys,e1,e2,e3⟩|⟨e1,e2,u,e3,e4⟩
    ·exact .inl ⟨ys,e1,e2,by rw[hd];exact e3⟩
    ·refine .inr ⟨e1,e2,u,?_,e4⟩;subst e2;rw[List.getElem?_append_right (by omega),ha];simpa using e3
  ·cases i with
   |zero=>simp only[List.getElem?_cons_zero,Option.some.injEq]at h;subst h;exact .inr ⟨h3,rfl,u,rfl,h4⟩
   |succ i=>
    simp only[List.getElem?_cons_succ]at h;rcases RelR_get h5 h with⟨ys,e1,e2,e3⟩|⟨e1,e2,u',e3,e4⟩
    ·refine .inl ⟨ys,e1,e2,?_⟩;rw[show(i+1)*1=i*1+1 by omega,List.drop_succ_cons];exact e3
    ·exact .inr ⟨e1,e2,u',by simpa using e3,e4⟩
theorem ziw{t:TypeId}{cs tl:List Value}{p z off:Nat}{V:Value}{k:Nat}(h:zT P t ((cs.drop p).take z) off=some V)(hs:zx P t=some k)(hl:off+k≤((cs.drop p).take z).length)(hp:p≤cs.length)(ha:zw P t=some true∨(zw P t=some false∧k=1)):
  zT P t (cs++tl) (p+off)=some V:=by
 simp only[List.length_take,List.length_drop]at hl;unfold zT at h⊢;rcases ha with hb|⟨hb,rfl⟩
 ·rw[hb,hs]at h⊢;simp only[Option.some.injEq]at h⊢;rw[←h];congr 2;rw[List.drop_append_of_le_length (by omega),List.take_append_of_le_length (by simp;omega)];rw[List.drop_take,List.take_take,List.drop_drop];congr 1;omega
 ·rw[hb,hs]at h⊢;simp only at h⊢;rw[List.getElem?_append_left (by omega)];rw[List.getElem?_take,if_pos (by omega),List.getElem?_drop]at h;exact h
theorem ziG(F:Fit c n R G st a w){t:TypeId}{x v:AV}{X:Value}(h:Vt P st.h t x=some (true,v))(hx:Rel (look G st.h) R x X):
  ∃V,(Instr.loadAt t X).run P w=.ok V w∧Rel (look G st.h) R v V:=by
 have go:∀{b off sz:Nat}{cs:Array Value}{T:TypeId}{fr:Nat×Nat}{V:Value},X=.pointer (some ⟨b,off,none⟩)→zT P t cs.toList off=some V→zx P t=some sz→off+sz≤cs.toList.length→
   w.heap[b]? =some (.cells cs T fr)→Rel (look G st.h) R v V→∃V,(Instr.loadAt t X).run P w=.ok V w∧Rel (look G st.h) R v V:=by
  intro b off sz cs T fr V hX hp hs hl hb hv;subst hX;exact⟨V,zcJ hp hs hl hb,hv⟩
 have cell:∀{i:Nat}{f:Info}{o:AO}{T:TypeId}{m:Int}{k:Nat}{C:List Value→Prop}{V:Value},hget st.h i=some o→look G st.h i=some f→f.virt=false→X=.pointer (some ⟨f.b,m.toNat*1+0,none⟩)→
   (∀r,ObjRel (look G st.h) R r o w→RowAt w r T 1 k C)→inIx m k=true→zw P t=some false→zx P t=some 1→(∀cs,C cs→cs[m.toNat]? =some V)→Rel (look G st.h) R v V→
   ∃V,(Instr.loadAt t X).run P w=.ok V w∧Rel (look G st.h) R v V:=by
  intro i f o T m k C V ho hf hvt hX hrow hin hagg hsz hC hv;obtain⟨o',r,h1,h2,rfl⟩:=zr hf;rw[ho]at h1;cases h1;obtain⟨h3,h4⟩:=zU.1 hin;obtain⟨cs,tl,fr,e1,e2,e3⟩:=X4 (hrow r (F.wrel.obj i o r ho h2)) hvt;have hlt:m.toNat<cs.length:=by omega
  refine go (cs:=(cs++tl).toArray) hX (V:=V) ?_ hsz ?_ e1 hv
  ·simp only[zT,hagg,hsz,Nat.mul_one,Nat.add_zero];rw[List.getElem?_append_left hlt];exact hC cs e2
  ·simp;omega
 have part:∀{i z:Nat}{m:Int}{off:Nat}{T:TypeId}{l:List AV},Rel (look G st.h) R (.ep i z m off) X→hget st.h i=some (.vals T z l)→zgT P t z l m off=some (true,v)→
   ∃V,(Instr.loadAt t X).run P w=.ok V w∧Rel (look G st.h) R v V:=by
  intro i z m off T l hx ho h;obtain⟨f,h1,h2,h3,h4,h5⟩:=hx;unfold zgT at h;split at h
  ·rename_i cc u hlf hoff hsz1;simp only[Option.some.injEq,Prod.mk.injEq,Bool.and_eq_true]at h;obtain⟨⟨hin,hlb,rfl⟩,rfl⟩:=h;have hoff:off+1≤z:=by simpa[Nat.blt]using hoff
   obtain⟨cs',hat',hcl⟩:=zc8 hlb;obtain⟨hagg,_,_,hrel,_⟩:=QV hlf;obtain⟨o',r,g1,g2,rfl⟩:=zr h1;rw[ho]at g1;cases g1;obtain⟨q1,q2⟩:=zU.1 hin;have hlt:m.toNat<l.length:=by omega
   obtain⟨hids,hrow⟩:=F.wrel.obj i _ r ho g2;obtain⟨cs,tl,fr,e1,e2,e3⟩:=X4 hrow h2;have hat:l[m.toNat]? =some (.agg cs'):=by rw[List.getElem?_eq_getElem hlt,←hat'];unfold atV;rw[List.getD_eq_getElem?_getD,List.getElem?_eq_getElem hlt];rfl
   have hmul:m.toNat*z+z≤l.length*z:=by have:(m.toNat+1)*z≤l.length*z:=Nat.mul_le_mul_right z (by omega);rw[Nat.succ_mul]at this;exact this
   rcases RelR_get e2 hat with⟨xs,x1,x2,x3⟩|⟨x1,_⟩
   ·cases x1;obtain⟨V,p1,p2⟩:=x3.get (ZK (k:=off) (by omega));rw[List.getElem?_take,if_pos (by omega),List.getElem?_drop]at p1;rw[hat']at hrel;refine go (cs:=(cs++tl).toArray) h5 (V:=V) ?_ hsz1 ?_ e1 (hrel _ _ _ p2)
    ·simp only[zT,hagg,hsz1];rw[List.getElem?_append_left (by omega)];exact p1
    ·simp;omega
   ·cases x1
  split at h
  ·rename_i cs' hat';split at h
   ·rename_i u hu;simp only[Option.some.injEq,Prod.mk.injEq]at h;obtain⟨hin,rfl⟩:=h;obtain⟨o',r,g1,g2,rfl⟩:=zr h1;rw[ho]at g1;cases g1;obtain⟨q1,q2⟩:=zU.1 hin;have hlt:m.toNat<l.length:=by omega
    obtain⟨hids,hrow⟩:=F.wrel.obj i _ r ho g2;obtain⟨cs,tl,fr,e1,e2,e3⟩:=X4 hrow h2;have hat:l[m.toNat]? =some (.agg cs'):=by rw[List.getElem?_eq_getElem hlt,←hat'];unfold atV;rw[List.getD_eq_getElem?_getD,List.getElem?_eq_getElem hlt];rfl
    have hmul:m.toNat*z+z≤l.length*z:=by have:(m.toNat+1)*z≤l.length*z:=Nat.mul_le_mul_right z (by omega);rw[Nat.succ_mul]at this;exact this
    rcases RelR_get e2 hat with⟨xs,x1,x2,x3⟩|⟨x1,_⟩
    ·cases x1;obtain⟨V,k,p1,p2,p3,p4⟩:=YS (P:=P) hu x3;have hagg:zw P t=some true∨(zw P t=some false∧k=1):=by
      unfold YT at hu;split at hu
      ·exact .inl (by assumption)
      ·rename_i h1 h2;rw[p3]at h2;cases h2;exact .inr ⟨h1,rfl⟩
      ·cases hu
     simp only[List.length_take,List.length_drop]at p4;refine go (cs:=(cs++tl).toArray) h5 (by simpa using ziw (tl:=tl) p1 p3 (by simp only[List.length_take,List.length_drop];exact p4) (by omega) hagg) p3 ?_ e1 p2;simp;omega
    ·cases x1
   ·cases h
  ·cases h
 have gpart:∀{i z:Nat}{m:Int}{off:Nat}{T:TypeId}{ag:Bool}{q:Nat}{l:List AV}{u:AV},Rel (look G st.h) R (.ep i z m off) X→hget st.h i=some (.gens T ag z q l)→YT P t ((l.drop (m.toNat*z)).take z) off=some u→
   inIx m q=true→u=v→∃V,(Instr.loadAt t X).run P w=.ok V w∧Rel (look G st.h) R v V:=by
  intro i z m off T ag q l u hx ho hu hin huv;subst huv;obtain⟨f,h1,h2,h3,h4,h5⟩:=hx;obtain⟨o',r,g1,g2,rfl⟩:=zr h1;rw[ho]at g1;cases g1;obtain⟨q1,q2⟩:=zU.1 hin;have hrow:=F.wrel.obj i _ r ho g2;simp only[ObjRel]at hrow;obtain⟨cs,tl,fr,e1,e2,e3⟩:=X4 hrow h2;have hmul:m.toNat*z+z≤q*z:=by have:(m.toNat+1)*z≤q*z:=Nat.mul_le_mul_right z (by omega);rw[Nat.succ_mul]at this;exact this
  obtain⟨V,k,p1,p2,p3,p4⟩:=YS (P:=P) hu ((e2.drop (m.toNat*z)).take z);have hagg:zw P t=some true∨(zw P t=some false∧k=1):=by
   unfold YT at hu;split at hu
   ·exact .inl (by assumption)
   ·rename_i h1 h2;rw[p3]at h2;cases h2;exact .inr ⟨h1,rfl⟩
   ·cases hu
  simp only[List.length_take,List.length_drop]at p4;refine go (cs:=(cs++tl).toArray) h5 (by simpa using ziw (tl:=tl) p1 p3 (by simp only[List.length_take,List.length_drop];exact p4) (by omega) hagg) p3 ?_ e1 p2;simp;omega
 unfold Vt at h;split at h
 ·rename_i i o;obtain⟨f,h1,h2,h3⟩:=hx;split at h
  ·rename_i T cs ho;split at h
   ·rename_i u hu;cases h;obtain⟨r,e1,e2,e3,e4,vs,e5,e6⟩:=F.look_live ho;rw[h1]at e2;cases e2;obtain⟨V,m,p1,p2,p3,p4⟩:=YS (P:=P) hu e6;exact go (cs:=vs.toArray) h3 (by simpa using p1) p3 (by simpa using p4) e5 p2
   ·cases h
  ·cases h
 ·rename_i i z m;obtain⟨f,h1,h2,h3,h4,h5⟩:=hx;split at h
  ·rename_i T l ho hu hsz hz;have hz:=Nat.eq_of_beq_eq_true hz;subst hz;simp only[Option.some.injEq,Prod.mk.injEq]at h;obtain⟨hin,rfl⟩:=h;refine cell (V:=.int .u8 (byteAt l m)) ho h1 h2 h5 (fun r hr=>by simpa only[ObjRel]using hr) hin (by simp[zw,hu]) hsz (fun cs hcs=>?_) rfl;subst hcs;obtain⟨q1,q2⟩:=zU.1 hin;have hlt:m.toNat<l.length:=by omega
   simp only[List.getElem?_map,List.getElem?_eq_getElem hlt,Option.map_some,u8V,byteAt,List.getD_eq_getElem?_getD,Option.getD_some]
  ·rename_i T k l k' ho hu hsz hz;have hz:=Nat.eq_of_beq_eq_true hz;subst hz;split at h
   ·rename_i hk;simp only[kEq,decide_eq_true_eq]at hk;simp only[Option.some.injEq,Prod.mk.injEq]at h;obtain⟨hin,rfl⟩:=h;refine cell (V:=.int k (atI l m)) ho h1 h2 h5 (fun r hr=>by simpa only[ObjRel]using hr) hin (by simp[zw,hu]) hsz (fun cs hcs=>?_) rfl;subst hcs;obtain⟨q1,q2⟩:=zU.1 hin;have hlt:m.toNat<l.length:=by omega
    simp only[List.getElem?_map,List.getElem?_eq_getElem hlt,Option.map_some,atI,List.getD_eq_getElem?_getD,Option.getD_some]
   ·cases h
  ·rename_i T l ho hu hsz hz;have hz:=Nat.eq_of_beq_eq_true hz;subst hz;simp only[Option.some.injEq,Prod.mk.injEq]at h;obtain⟨hin,rfl⟩:=h;refine cell (V:=.string (bs (atS l m))) ho h1 h2 h5 (fun r hr=>by simpa only[ObjRel]using hr) hin (by simp[zw,hu]) hsz (fun cs hcs=>?_) rfl;subst hcs;obtain⟨q1,q2⟩:=zU.1 hin;have hlt:m.toNat<l.length:=by omega
   simp only[List.getElem?_map,List.getElem?_eq_getElem hlt,Option.map_some,atS,List.getD_eq_getElem?_getD,Option.getD_some]
  ·rename_i T z' l d q ho hu hsz;split at h
   ·rename_i cc u hz hq hsh;have hz:=Nat.eq_of_beq_eq_true hz;have hq:=Nat.eq_of_beq_eq_true hq;subst hz hq;simp only[Option.some.injEq,Prod.mk.injEq,Bool.and_eq_true]at h;obtain⟨⟨hin,rfl⟩,rfl⟩:=h;obtain⟨o',r,g1,g2,rfl⟩:=zr h1;rw[ho]at g1;cases g1;obtain⟨q1,q2⟩:=zU.1 hin;have hlt:m.toNat<l.length:=by omega
    have hobj:=F.wrel.obj i _ r ho g2;obtain⟨hids,hrow⟩:=hobj;obtain⟨cs,tl,fr,e1,e2,e3⟩:=X4 hrow h2;have hat:l[m.toNat]? =some (atV l m):=by rw[List.getElem?_eq_getElem hlt];unfold atV;rw[List.getD_eq_getElem?_getD,List.getElem?_eq_getElem hlt];rfl
    have hmul:m.toNat*z+z≤l.length*z:=by have:(m.toNat+1)*z≤l.length*z:=Nat.mul_le_mul_right z (by omega);rw[Nat.succ_mul]at this;exact this
    rcases RelR_get e2 hat with⟨xs,x1,x2,x3⟩|⟨x1,x2,u',x3,x4⟩
    ·rcases shapeA_rel hsh with⟨hagg,cs',ys,y1,y2,y3,y4,_⟩|⟨_,y1,_⟩
     ·rw[x1]at y1;cases y1;refine go (cs:=(cs++tl).toArray) h5 (V:=.agg ((cs.drop (m.toNat*z)).take z).toArray) ?_ hsz ?_ e1 ?_
      ·simp only[zT,hagg,hsz,Nat.add_zero];rw[List.drop_append_of_le_length (by omega),List.take_append_of_le_length (by simp;omega)]
      ·simp;omega
      ·rw[y2];exact⟨_,rfl,y4 _ _ _ x3⟩
     ·rw[x1]at y1;cases y1
    ·subst x2;rcases shapeA_rel hsh with⟨_,cs',ys,y1,_⟩|⟨hagg,_,_,y3,_⟩
     ·rw[y1]at x1;cases x1
     ·refine go (cs:=(cs++tl).toArray) h5 (V:=u') ?_ hsz ?_ e1 (y3 _ _ _ x4)
      ·simp only[zT,hagg,hsz,Nat.add_zero,Nat.mul_one];rw[List.getElem?_append_left (by omega)];exact x3
      ·simp;omega
   ·rename_i hz _;have hz:=Nat.eq_of_beq_eq_true hz;subst hz;exact part (show Rel (look G st.h) R (.ep i z m 0) X from⟨_,h1,h2,h3,h4,h5⟩) ho h
   ·cases h
  ·rename_i T ag z' q cs ho;split at h
   ·rename_i u hz hu;have hz:=Nat.eq_of_beq_eq_true hz;subst hz;simp only[Option.some.injEq,Prod.mk.injEq]at h;obtain⟨hin,rfl⟩:=h;exact gpart (show Rel (look G st.h) R (.ep i z m 0) X from⟨_,h1,h2,h3,h4,h5⟩) ho hu hin rfl
   ·cases h
  ·cases h
 ·rename_i i z m off;split at h
  ·rename_i T z' l ho;split at h
   ·rename_i hz;have hz:=Nat.eq_of_beq_eq_true hz;subst hz;exact part hx ho h
   ·cases h
  ·rename_i T ag z' q cs ho;split at h
   ·rename_i u hz hu;have hz:=Nat.eq_of_beq_eq_true hz;subst hz;simp only[Option.some.injEq,Prod.mk.injEq]at h;obtain⟨hin,rfl⟩:=h;exact gpart hx ho hu hin rfl
   ·cases h
  ·cases h
 ·rename_i u;split at h
  ·rename_i cs k hagg hsz;split at h
   ·rename_i hb hk1;have hb:=Nat.eq_of_beq_eq_true hb;have hk1:=Nat.le_of_ble_eq_true hk1;cases h;obtain⟨h0,b,off,ce,T,fr,seg,tl,e1,e2,e3,e4⟩:=hx;have hl:seg.length=k:=by rw[←e4.length,hb]
    have hoff:off+k≤ce.toList.length:=by have:=congrArg List.length e3;simp only[List.length_drop,List.length_append]at this;omega
    refine go (cs:=ce) e1 (V:=.agg seg.toArray) ?_ hsz hoff (F.wrel.ro _ _ e2) ⟨seg,rfl,e4⟩;simp only[zT,hagg,hsz];rw[e3,List.take_append_of_le_length (by omega),List.take_of_length_le (by omega)]
   ·cases h
  ·cases h
  ·rename_i hne hagg hsz;cases h;have key:∃b off ce T fr u tl,X=.pointer (some ⟨b,off,none⟩)∧R b=some (.cells ce T fr)∧ce.toList.drop off=u::tl∧Rel (look G st.h) R v u:=by
    cases v with
    |agg cs=>exact absurd rfl (hne cs)
    |_=>obtain⟨_,_,b,off,ce,T,fr,u,tl,e1,e2,e3,e4⟩:=hx;exact⟨b,off,ce,T,fr,u,tl,e1,e2,e3,e4⟩
   obtain⟨b,off,ce,T,fr,u,tl,e1,e2,e3,e4⟩:=key;have hlt:off<ce.toList.length:=by have:=congrArg List.length e3;simp only[List.length_drop,List.length_cons]at this;omega
   refine go (cs:=ce) e1 (V:=u) ?_ hsz hlt (F.wrel.ro _ _ e2) e4;simp only[zT,hagg,hsz];have:=congrArg (·[0]?) e3;simpa[List.getElem?_drop]using this
  ·cases h
 ·cases h
end
end Go.Am
