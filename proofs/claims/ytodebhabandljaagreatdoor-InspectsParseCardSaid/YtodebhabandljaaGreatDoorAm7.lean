/-
  A part of the proof of the laws.
-/
import Derived.Test.YtodebhabandljaaGreatDoorAm6
namespace Go.Am
open Go Go.RowKit Go.Vc
structure Fit(c:Base)(n:Nat)(R:Ro)(G:List Res)(st:St)(a:Act)(w:World):Prop where
 wrel:WRel R G st.h w
 since:Since c R G st.h w
 slots:∀t,Rel (look G st.h) R (get st.s t) (a.tmps.getD t undef)
 defers:a.defers=[]
 size:a.tmps.size=n
def zAV(h:Heap)(k:Nat):Prop:=∀i,k<=i->hget h i=none
def FreeR(h:Heap)(k q:Nat):Prop:=∀i,k<=i->i<k+q->hget h i=none
def Jm(k q:Nat)(h h':Heap):Prop:=∀i,¬(k<=i/\i<k+q)->hget h i=none->hget h' i=none
theorem jM{h:Heap}{i j:Nat}{o:Option AO}(B:i<h.length):hget (h.set i o) j=if i=j then o else hget h j:=by
 unfold hget;rw[nF];by_cases y:i=j
 ·subst y;simp only[B,if_true];cases o<;>rfl
 ·simp only[y,if_false]
theorem zk0{h:Heap}{l:Heap}(y:∀o∈l,o=none){j:Nat}:hget (h++l) j=hget h j:=by
 unfold hget;by_cases B:j<h.length
 ·rw[mN B]
 ·rw[nD (by omega),uAL (l:=h) (by omega)];cases hx:l[j-h.length]? with
  |none=>rfl
  |some o=>rw[y o (nK hx)]
theorem jf{s:Slots}{d:Nat}{v:AV}{t:Nat}:get (put d v s) t=if d=t then v else get s t:=by
 induction s with
 |nil=>
  simp only[put,get];split
  ·rename_i h;rw[if_pos (kV h)]
  ·rename_i h;rw[if_neg (fun e=>by subst e;simp at h)]
 |cons x r y=>
  obtain⟨x,u⟩:=x;simp only[put];split
  ·rename_i h;have h:=kV h;subst h;simp only[get];split
   ·rename_i j;rw[if_pos (kV j)]
   ·rename_i j;rw[if_neg (fun e=>by subst e;simp at j)]
  ·rename_i h;split
   ·rw[get];split
    ·rename_i j;rw[if_pos (kV j)]
    ·rename_i j;rw[if_neg (fun e=>by subst e;simp at j)]
   ·simp only[get];split
    ·rename_i j;have j:=kV j;subst j;rw[if_neg (fun e=>by subst e;simp at h)]
    ·exact y
theorem zui{a:Act}{d t n:Nat}{V:Value}(y:a.tmps.size=n)(B:Nat.blt d n=true):(a.put (some d) V).tmps.getD t undef=if d=t then V else a.tmps.getD t undef:=by
 have j:d<a.tmps.size:=by
  rw[y];have:d+1<=n:=by simpa[Nat.blt]using B
  omega
 by_cases h:d=t
 ·subst h;simp[Act.put,j]
 ·simp[Act.put,h,Array.getElem?_setIfInBounds_ne h]
section
variable {P : Program} {c : Base} {n : Nat} {R : Ro} {G : List Res} {st : St} {a : Act} {w w' : World}
theorem Fit.put(F:Fit c n R G st a w){d:Option Nat}(j:zae n d=true){v:AV}{V:Value}(hv:Rel (look G st.h) R v V):Fit c n R G ⟨putO d v st.s,st.h⟩ (a.put d V) w:=by
 cases d with
 |none=>exact F
 |some d=>
  refine⟨F.wrel,F.since,fun t=>?_,F.defers,by simpa[Act.put]using F.size⟩;show Rel _ _ (get (Am.put d v st.s) t) _;rw[jf,zui F.size j];split
  ·exact hv
  ·exact F.slots t
theorem Fit.look_live(F:Fit c n R G st a w){i:Nat}{o:AO}(ho:hget st.h i=some o):∃r,G[i]? =some r/\look G st.h i=some ⟨r.b,r.virt,r.cap,lenO o⟩/\ObjRel (look G st.h) R r o w:=by obtain⟨r,j⟩:=F.wrel.res ⟨o,ho⟩;exact⟨r,j,zG ho j,F.wrel.obj i o r ho j⟩
theorem Fit.keep(F:Fit c n R G st a w)(k:Keeps [] w w'):Fit c n R G st a w':=by
 obtain⟨B,y⟩:=yd (c:=c) (R':=R) (G':=G) (h':=st.h) (A:=[]) (Fr:=fun _=>False) F.wrel F.since k (by simp) (by simp) F.wrel.len (mA _) (fun i _ _=>⟨rfl,rfl⟩)
  (fun i o _ _ j _ f H=>H) (fun _ _ h=>h) (fun b o B y=>by rw[B]at y;cases y) (by simp) (by simp) (by simp)
 exact⟨B,y,F.slots,F.defers,F.size⟩
theorem Fit.fresh(F:Fit c n R G st a w){i:Nat}(Z:i<st.h.length)(hm:c.m<=i)(hn:hget st.h i=none){w':World}(hk:Keeps [] w w'){ao:AO}{r:Res}(hfp:∀b∈r.fp,w.heap.size<=b)
  (ho:∀L',(∀j f,look G st.h j=some f->L' j=some f)->ObjRel L' R r ao w'):
  Fit c n R (G.set i r) ⟨st.s,st.h.set i (some ao)⟩ a w'/\look (G.set i r) (st.h.set i (some ao)) i=some ⟨r.b,r.virt,r.cap,lenO ao⟩/\
   (∀j f,look G st.h j=some f->look (G.set i r) (st.h.set i (some ao)) j=some f):=by
 have hne:∀j,(∃o,hget st.h j=some o)->i≠j:=fun j ⟨o,ho⟩ e=>by subst e;rw[hn]at ho;cases ho
 have hG:∀j,i≠j->(G.set i r)[j]? =G[j]? :=fun j h=>by rw[nF,if_neg h]
 have hiG:i<G.length:=by rw[F.wrel.len];exact Z
 have y:∀j f,look G st.h j=some f->look (G.set i r) (st.h.set i (some ao)) j=some f:=by intro j f J;obtain⟨o,r',H,I,rfl⟩:=zx J;have:=hne j ⟨o,H⟩;exact zG (by rw[jM Z,if_neg this];exact H) (by rw[hG j this];exact I)
 obtain⟨H,I⟩:=yd (c:=c) (R':=R) (G':=G.set i r) (h':=st.h.set i (some ao)) (A:=[i]) (Fr:=fun _=>False) F.wrel F.since hk (by simp) (by simp) (by simp[F.wrel.len]) (by simp)
  (fun j B _=>by
   have O:i≠j:=fun e=>B (by simp[e])
   exact⟨by rw[jM Z,if_neg O],hG j O⟩)
  (fun j o _ _ k _ f J=>y k f J) (fun _ _ h=>h) (fun b o H I=>by rw[H]at I;cases I)
  (fun j o r' B ho' hr'=>by
   simp only[mD]at B;subst B;rw[jM Z,if_pos rfl]at ho';rw[nF,if_pos rfl,if_pos hiG]at hr';cases ho';cases hr';refine⟨ho _ y,fun b hb=>?_⟩;have hb:=hfp b hb;refine⟨?_,.inr (.inr hb)⟩;cases hr:R b with
   |none=>rfl
   |some o=>have:=zV (F.wrel.ro _ _ hr);omega)
  (fun j k rj rk hjk B hk=>by simp only[mD]at B hk;exact absurd (B.trans hk.symm) hjk)
  (fun j B U _=>by simp only[mD]at U;subst U;omega)
 refine⟨⟨H,I,fun t=>zj (fun _ _ h=>h) _ _ (fun j _ f J=>y j f J) (F.slots t),F.defers,F.size⟩,?_,y⟩;exact zG (by rw[jM Z,if_pos rfl]) (by rw[nF,if_pos rfl,if_pos hiG])
theorem Fit.new(F:Fit c n R G st a w){i:Nat}(H:i<st.h.length)(J:c.m<=i)(I:hget st.h i=none){ob:Obj}{ao:AO}{r:Res}(y:r.fp=[w.heap.size])
  (ho:∀L',(∀j f,look G st.h j=some f->L' j=some f)->ObjRel L' R r ao (w.alloc ob)):
  Fit c n R (G.set i r) ⟨st.s,st.h.set i (some ao)⟩ a (w.alloc ob)/\look (G.set i r) (st.h.set i (some ao)) i=some ⟨r.b,r.virt,r.cap,lenO ao⟩/\
   (∀j f,look G st.h j=some f->look (G.set i r) (st.h.set i (some ao)) j=some f):=
 F.fresh H J I (Keeps.of_below ((Below.refl _ _).alloc (mA _) _)) (fun b B=>by rw[y]at B;simp only[mD]at B;omega) ho
theorem Fit.write(F:Fit c n R G st a w){i:Nat}{o ao:AO}{r:Res}(ho:hget st.h i=some o)(O:G[i]? =some r)(hl:lenO ao=lenO o)(hfp:r.fp=[r.b])(k:Keeps [r.b] w w')
  (hob:∀L',(∀j f,look G st.h j=some f->L' j=some f)->ObjRel L' R r ao w'):
  Fit c n R G ⟨st.s,st.h.set i (some ao)⟩ a w'/\(∀j f,look G st.h j=some f->look G (st.h.set i (some ao)) j=some f):=by
 have hi:i<st.h.length:=jg ⟨o,ho⟩;have y:∀j f,look G st.h j=some f->look G (st.h.set i (some ao)) j=some f:=by
  intro j f U;obtain⟨o',r',I,J,rfl⟩:=zx U;by_cases B:i=j
  ·subst B;rw[ho]at I;cases I;rw[<-hl];exact zG (by rw[jM hi,if_pos rfl]) J
  ·exact zG (by rw[jM hi,if_neg B];exact I) J
 obtain⟨I,J⟩:=yd (c:=c) (R':=R) (G':=G) (h':=st.h.set i (some ao)) (A:=[i]) (Fr:=fun _=>False) F.wrel F.since k
  (fun b hb=>.inr ⟨i,r,by simp,⟨o,ho⟩,O,by rw[hfp];exact hb⟩) (by simp) (by simp[F.wrel.len]) (by simp)
  (fun j H _=>by
   have B:i≠j:=fun e=>H (by simp[e])
   exact⟨by rw[jM hi,if_neg B],rfl⟩)
  (fun j o _ _ k _ f U=>y k f U) (fun _ _ h=>h) (fun b o I J=>by rw[I]at J;cases J)
  (fun j o' r' H ho' hr'=>by simp only[mD]at H;subst H;rw[jM hi,if_pos rfl]at ho';rw[O]at hr';cases ho';cases hr';exact⟨hob _ y,fun b hb=>⟨F.wrel.sepR j r ⟨o,ho⟩ O b hb,.inr (.inl ⟨j,r,by simp,⟨o,ho⟩,O,hb⟩)⟩⟩)
  (fun j k rj rk hjk H hk=>by simp only[mD]at H hk;exact absurd (H.trans hk.symm) hjk)
  (fun j H Z _=>by simp only[mD]at Z;subst Z;rw[<-F.since.same j H ⟨o,ho⟩];have e1:=zG (G:=G) ho O;rw[e1];exact y _ _ e1)
 exact⟨⟨I,J,fun t=>zj (fun _ _ h=>h) _ _ (fun j _ f U=>y j f U) (F.slots t),F.defers,F.size⟩,y⟩
theorem zhr(h:Heap):∀(k:Nat),wide h k=h++List.replicate k none
 |0=>by simp[wide]
 |k+1=>by rw[wide,zhr (h++[none]) k,mB,List.replicate_succ];rfl
theorem Fit.wide(F:Fit c n R G st a w)(k:Nat):∃G',Fit c n R G' ⟨st.s,wide st.h k⟩ a w/\zAV (wide st.h k) st.h.length/\(wide st.h k).length=st.h.length+k:=by
 rw[zhr];have hh:∀j,hget (st.h++List.replicate k none) j=hget st.h j:=fun j=>zk0 (fun o ho=>(List.mem_replicate.1 ho).2)
 have O:∀j,live st.h j->j<G.length:=fun j y=>by rw[F.wrel.len];exact jg y
 have U:∀j,live st.h j->(G++List.replicate k (⟨0,false,0,[]⟩:Res))[j]? =G[j]? :=fun j y=>mN (O j y)
 have J:∀j f,look G st.h j=some f->look (G++List.replicate k (⟨0,false,0,[]⟩:Res)) (st.h++List.replicate k none) j=some f:=by intro j f I;obtain⟨o',Z,B,H,rfl⟩:=zx I;exact zG ((hh j).trans B) ((U j ⟨o',B⟩).trans H)
 obtain⟨B,H⟩:=yd (c:=c) (R':=R) (G':=G++List.replicate k ⟨0,false,0,[]⟩) (h':=st.h++List.replicate k none) (X:=[]) (A:=[]) (Fr:=fun _=>False) F.wrel F.since (Keeps.refl _ _) (by simp) (by simp)
  (by simp[F.wrel.len]) (by simp) (fun j _ y=>⟨hh j,U j (by obtain⟨o,ho⟩:=y;exact⟨o,(hh j)▸ho⟩)⟩) (fun j o _ _ k _ f I=>J k f I) (fun _ _ h=>h) (fun b o B H=>by rw[B]at H;cases H) (by simp) (by simp) (by simp)
 refine⟨_,⟨B,H,fun t=>zj (fun _ _ h=>h) _ _ (fun j _ f I=>J j f I) (F.slots t),F.defers,F.size⟩,fun j y=>?_,by simp⟩;rw[hh];unfold hget;rw[uAL y]
theorem Va{w:World}{r:Res}{T:TypeId}{z k:Nat}{C:List Value->Prop}(h:RowAt w r T z k C)(hv:r.virt=false):
  ∃cs tl fr,w.heap[r.b]? =some (.cells (cs++tl).toArray T fr)/\C cs/\cs.length=k*z:=by
 rcases h with⟨j,_⟩|⟨_,_,_,cs,tl,fr,j,B,y,_⟩
 ·rw[hv]at j;cases j
 ·exact⟨cs,tl,fr,j,B,y⟩
theorem RelR_get{L:Lk}{R:Ro}{z:Nat}:∀{l:List AV}{cs:List Value},RelR L R z l cs->∀{i:Nat}{v:AV},l[i]? =some v->
  (∃xs,v=.agg xs/\xs.length=z/\RelL L R xs ((cs.drop (i*z)).take z))\/(zL v=true/\z=1/\∃u,cs[i]? =some u/\Rel L R v u)
 |[],_,_,i,v,h=>by simp at h
 |x::r,cs,hr,i,v,h=>by
  have key:(∃xs a b,x=.agg xs/\cs=a++b/\xs.length=z/\RelL L R xs a/\RelR L R z r b)\/(∃u O,cs=u::O/\z=1/\zL x=true/\Rel L R x u/\RelR L R z r O):=by
   cases x with
   |agg xs=>obtain⟨a,b,h1,J,y,B⟩:=hr;exact .inl ⟨xs,a,b,rfl,h1,J,y,B⟩
   |_=>obtain⟨u,O,h1,J,y,B,Z⟩:=hr;exact .inr ⟨u,O,h1,J,y,B,Z⟩
  rcases key with⟨xs,a,b,rfl,rfl,J,y,B⟩|⟨u,O,rfl,rfl,y,B,Z⟩
  ·have ha:a.length=z:=by rw[<-y.length,J]
   cases i with
   |zero=>simp only[uAw,Option.some.injEq]at h;subst h;refine .inl ⟨xs,rfl,J,?_⟩;rw[Nat.zero_mul,uAe,uAt (by omega),nX (by omega)];exact y
   |succ i=>
    simp only[uAm]at h;have hd:((a++b).drop ((i+1)*z))=b.drop (i*z):=by rw[nU,uAh,<-mT,<-ha,List.drop_left]
    rcases RelR_get B h with⟨U,I,j,H⟩|⟨I,j,u,H,e4⟩
    ·exact .inl ⟨U,I,j,by rw[hd];exact H⟩
    ·refine .inr ⟨I,j,u,?_,e4⟩;subst j;rw[nD (by omega),ha];simpa using H
  ·cases i with
   |zero=>simp only[uAw,Option.some.injEq]at h;subst h;exact .inr ⟨y,rfl,u,rfl,B⟩
   |succ i=>
    simp only[uAm]at h;rcases RelR_get Z h with⟨U,I,j,H⟩|⟨I,j,u',H,e4⟩
    ·refine .inl ⟨U,I,j,?_⟩;rw[show(i+1)*1=i*1+1 by omega,List.drop_succ_cons];exact H
    ·exact .inr ⟨I,j,u',by simpa using H,e4⟩
theorem zkB{t:TypeId}{cs tl:List Value}{p z off:Nat}{V:Value}{k:Nat}(h:z7 P t ((cs.drop p).take z) off=some V)(y:zH P t=some k)(B:off+k<=((cs.drop p).take z).length)(hp:p<=cs.length)(ha:zF P t=some true\/(zF P t=some false/\k=1)):
  z7 P t (cs++tl) (p+off)=some V:=by
 simp only[mH,mL]at B;unfold z7 at h⊢;rcases ha with j|⟨j,rfl⟩
 ·rw[j,y]at h⊢;simp only[Option.some.injEq]at h⊢;rw[<-h];congr 2;rw[nI (by omega),uAt (by simp;omega)];rw[List.drop_take,List.take_take,mT];congr 1;omega
 ·rw[j,y]at h⊢;simp only at h⊢;rw[mN (by omega)];rw[uAN,if_pos (by omega),mY]at h;exact h
theorem zkK(F:Fit c n R G st a w){t:TypeId}{x v:AV}{X:Value}(h:WE P st.h t x=some (true,v))(hx:Rel (look G st.h) R x X):
  ∃V,(Instr.loadAt t X).run P w=.ok V w/\Rel (look G st.h) R v V:=by
 have go:∀{b off sz:Nat}{cs:Array Value}{T:TypeId}{fr:Nat×Nat}{V:Value},X=.pointer (some ⟨b,off,none⟩)->z7 P t cs.toList off=some V->zH P t=some sz->off+sz<=cs.toList.length->
   w.heap[b]? =some (.cells cs T fr)->Rel (look G st.h) R v V->∃V,(Instr.loadAt t X).run P w=.ok V w/\Rel (look G st.h) R v V:=by
  intro b off sz cs T fr V hX hp hs hl hb hv;subst hX;exact⟨V,zeB hp hs hl hb,hv⟩
 have cell:∀{i:Nat}{f:Info}{o:AO}{T:TypeId}{m:Int}{k:Nat}{C:List Value->Prop}{V:Value},hget st.h i=some o->look G st.h i=some f->f.virt=false->X=.pointer (some ⟨f.b,m.toNat*1+0,none⟩)->
   (∀r,ObjRel (look G st.h) R r o w->RowAt w r T 1 k C)->zw m k=true->zF P t=some false->zH P t=some 1->(∀cs,C cs->cs[m.toNat]? =some V)->Rel (look G st.h) R v V->
   ∃V,(Instr.loadAt t X).run P w=.ok V w/\Rel (look G st.h) R v V:=by
  intro i f o T m k C V ho hf hvt hX I y j B hC hv;obtain⟨o',r,U,Z,rfl⟩:=zx hf;rw[ho]at U;cases U;obtain⟨h3,h4⟩:=zB.1 y;obtain⟨cs,tl,fr,e1,e2,e3⟩:=Va (I r (F.wrel.obj i o r ho Z)) hvt;have H:m.toNat<cs.length:=by omega
  refine go (cs:=(cs++tl).toArray) hX (V:=V) ?_ B ?_ e1 hv
  ·simp only[z7,j,B,nC,uAu];rw[mN H];exact hC cs e2
  ·simp;omega
 have part:∀{i z:Nat}{m:Int}{off:Nat}{T:TypeId}{l:List AV},Rel (look G st.h) R (.ep i z m off) X->hget st.h i=some (.vals T z l)->zit P t z l m off=some (true,v)->
   ∃V,(Instr.loadAt t X).run P w=.ok V w/\Rel (look G st.h) R v V:=by
  intro i z m off T l hx ho h;obtain⟨f,U,Z,h3,h4,h5⟩:=hx;unfold zit at h;split at h
  ·rename_i cc u hlf hoff hsz1;simp only[Option.some.injEq,Prod.mk.injEq,kY]at h;obtain⟨⟨y,hlb,rfl⟩,rfl⟩:=h;have hoff:off+1<=z:=by simpa[Nat.blt]using hoff
   obtain⟨cs',hat',hcl⟩:=ze3 hlb;obtain⟨j,_,_,hrel,_⟩:=XI hlf;obtain⟨o',r,g1,g2,rfl⟩:=zx U;rw[ho]at g1;cases g1;obtain⟨q1,q2⟩:=zB.1 y;have H:m.toNat<l.length:=by omega
   obtain⟨hids,I⟩:=F.wrel.obj i _ r ho g2;obtain⟨cs,tl,fr,e1,e2,e3⟩:=Va I Z;have hat:l[m.toNat]? =some (.agg cs'):=by rw[kZ H,<-hat'];unfold atV;rw[mG,kZ H];rfl
   have hmul:m.toNat*z+z<=l.length*z:=by have:(m.toNat+1)*z<=l.length*z:=nE z (by omega);rw[nU]at this;exact this
   rcases RelR_get e2 hat with⟨xs,x1,x2,x3⟩|⟨x1,_⟩
   ·cases x1;obtain⟨V,p1,p2⟩:=x3.get (Jg (k:=off) (by omega));rw[uAN,if_pos (by omega),mY]at p1;rw[hat']at hrel;refine go (cs:=(cs++tl).toArray) h5 (V:=V) ?_ hsz1 ?_ e1 (hrel _ _ _ p2)
    ·simp only[z7,j,hsz1];rw[mN (by omega)];exact p1
    ·simp;omega
   ·cases x1
  split at h
  ·rename_i cs' hat';split at h
   ·rename_i u O;simp only[Option.some.injEq,Prod.mk.injEq]at h;obtain⟨y,rfl⟩:=h;obtain⟨o',r,g1,g2,rfl⟩:=zx U;rw[ho]at g1;cases g1;obtain⟨q1,q2⟩:=zB.1 y;have H:m.toNat<l.length:=by omega
    obtain⟨hids,I⟩:=F.wrel.obj i _ r ho g2;obtain⟨cs,tl,fr,e1,e2,e3⟩:=Va I Z;have hat:l[m.toNat]? =some (.agg cs'):=by rw[kZ H,<-hat'];unfold atV;rw[mG,kZ H];rfl
    have hmul:m.toNat*z+z<=l.length*z:=by have:(m.toNat+1)*z<=l.length*z:=nE z (by omega);rw[nU]at this;exact this
    rcases RelR_get e2 hat with⟨xs,x1,x2,x3⟩|⟨x1,_⟩
    ·cases x1;obtain⟨V,k,p1,p2,p3,p4⟩:=Qw (P:=P) O x3;have j:zF P t=some true\/(zF P t=some false/\k=1):=by
      unfold Qx at O;split at O
      ·exact .inl (by assumption)
      ·rename_i U Z;rw[p3]at Z;cases Z;exact .inr ⟨U,rfl⟩
      ·cases O
     simp only[mH,mL]at p4;refine go (cs:=(cs++tl).toArray) h5 (by simpa using zkB (tl:=tl) p1 p3 (by simp only[mH,mL];exact p4) (by omega) j) p3 ?_ e1 p2;simp;omega
    ·cases x1
   ·cases h
  ·cases h
 have gpart:∀{i z:Nat}{m:Int}{off:Nat}{T:TypeId}{ag:Bool}{q:Nat}{l:List AV}{u:AV},Rel (look G st.h) R (.ep i z m off) X->hget st.h i=some (.gens T ag z q l)->Qx P t ((l.drop (m.toNat*z)).take z) off=some u->
   zw m q=true->u=v->∃V,(Instr.loadAt t X).run P w=.ok V w/\Rel (look G st.h) R v V:=by
  intro i z m off T ag q l u hx ho O y huv;subst huv;obtain⟨f,U,Z,h3,h4,h5⟩:=hx;obtain⟨o',r,g1,g2,rfl⟩:=zx U;rw[ho]at g1;cases g1;obtain⟨q1,q2⟩:=zB.1 y;have I:=F.wrel.obj i _ r ho g2;simp only[ObjRel]at I;obtain⟨cs,tl,fr,e1,e2,e3⟩:=Va I Z;have hmul:m.toNat*z+z<=q*z:=by have:(m.toNat+1)*z<=q*z:=nE z (by omega);rw[nU]at this;exact this
  obtain⟨V,k,p1,p2,p3,p4⟩:=Qw (P:=P) O ((e2.drop (m.toNat*z)).take z);have j:zF P t=some true\/(zF P t=some false/\k=1):=by
   unfold Qx at O;split at O
   ·exact .inl (by assumption)
   ·rename_i U Z;rw[p3]at Z;cases Z;exact .inr ⟨U,rfl⟩
   ·cases O
  simp only[mH,mL]at p4;refine go (cs:=(cs++tl).toArray) h5 (by simpa using zkB (tl:=tl) p1 p3 (by simp only[mH,mL];exact p4) (by omega) j) p3 ?_ e1 p2;simp;omega
 unfold WE at h;split at h
 ·rename_i i o;obtain⟨f,U,Z,h3⟩:=hx;split at h
  ·rename_i T cs ho;split at h
   ·rename_i u O;cases h;obtain⟨r,e1,e2,e3,e4,vs,e5,e6⟩:=F.look_live ho;rw[U]at e2;cases e2;obtain⟨V,m,p1,p2,p3,p4⟩:=Qw (P:=P) O e6;exact go (cs:=vs.toArray) h3 (by simpa using p1) p3 (by simpa using p4) e5 p2
   ·cases h
  ·cases h
 ·rename_i i z m;obtain⟨f,U,Z,h3,h4,h5⟩:=hx;split at h
  ·rename_i T l ho O B J;have J:=kV J;subst J;simp only[Option.some.injEq,Prod.mk.injEq]at h;obtain⟨y,rfl⟩:=h;refine cell (V:=.int .u8 (byteAt l m)) ho U Z h5 (fun r hr=>by simpa only[ObjRel]using hr) y (by simp[zF,O]) B (fun cs hcs=>?_) rfl;subst hcs;obtain⟨q1,q2⟩:=zB.1 y;have H:m.toNat<l.length:=by omega
   simp only[mX,kZ H,nY,u8V,byteAt,mG,Option.getD_some]
  ·rename_i T k l k' ho O B J;have J:=kV J;subst J;split at h
   ·rename_i hk;simp only[kEq,decide_eq_true_eq]at hk;simp only[Option.some.injEq,Prod.mk.injEq]at h;obtain⟨y,rfl⟩:=h;refine cell (V:=.int k (atI l m)) ho U Z h5 (fun r hr=>by simpa only[ObjRel]using hr) y (by simp[zF,O]) B (fun cs hcs=>?_) rfl;subst hcs;obtain⟨q1,q2⟩:=zB.1 y;have H:m.toNat<l.length:=by omega
    simp only[mX,kZ H,nY,atI,mG,Option.getD_some]
   ·cases h
  ·rename_i T l ho O B J;have J:=kV J;subst J;simp only[Option.some.injEq,Prod.mk.injEq]at h;obtain⟨y,rfl⟩:=h;refine cell (V:=.string (bs (atS l m))) ho U Z h5 (fun r hr=>by simpa only[ObjRel]using hr) y (by simp[zF,O]) B (fun cs hcs=>?_) rfl;subst hcs;obtain⟨q1,q2⟩:=zB.1 y;have H:m.toNat<l.length:=by omega
   simp only[mX,kZ H,nY,atS,mG,Option.getD_some]
  ·rename_i T z' l d q ho O B;split at h
   ·rename_i cc u J hq hsh;have J:=kV J;have hq:=kV hq;subst J hq;simp only[Option.some.injEq,Prod.mk.injEq,kY]at h;obtain⟨⟨y,rfl⟩,rfl⟩:=h;obtain⟨o',r,g1,g2,rfl⟩:=zx U;rw[ho]at g1;cases g1;obtain⟨q1,q2⟩:=zB.1 y;have H:m.toNat<l.length:=by omega
    have hobj:=F.wrel.obj i _ r ho g2;obtain⟨hids,I⟩:=hobj;obtain⟨cs,tl,fr,e1,e2,e3⟩:=Va I Z;have hat:l[m.toNat]? =some (atV l m):=by rw[kZ H];unfold atV;rw[mG,kZ H];rfl
    have hmul:m.toNat*z+z<=l.length*z:=by have:(m.toNat+1)*z<=l.length*z:=nE z (by omega);rw[nU]at this;exact this
    rcases RelR_get e2 hat with⟨xs,x1,x2,x3⟩|⟨x1,x2,u',x3,x4⟩
    ·rcases shapeA_rel hsh with⟨j,cs',ys,y1,y2,y3,y4,_⟩|⟨_,y1,_⟩
     ·rw[x1]at y1;cases y1;refine go (cs:=(cs++tl).toArray) h5 (V:=.agg ((cs.drop (m.toNat*z)).take z).toArray) ?_ B ?_ e1 ?_
      ·simp only[z7,j,B,uAu];rw[nI (by omega),uAt (by simp;omega)]
      ·simp;omega
      ·rw[y2];exact⟨_,rfl,y4 _ _ _ x3⟩
     ·rw[x1]at y1;cases y1
    ·subst x2;rcases shapeA_rel hsh with⟨_,cs',ys,y1,_⟩|⟨j,_,_,y3,_⟩
     ·rw[y1]at x1;cases x1
     ·refine go (cs:=(cs++tl).toArray) h5 (V:=u') ?_ B ?_ e1 (y3 _ _ _ x4)
      ·simp only[z7,j,B,uAu,nC];rw[mN (by omega)];exact x3
      ·simp;omega
   ·rename_i J _;have J:=kV J;subst J;exact part (show Rel (look G st.h) R (.ep i z m 0) X from⟨_,U,Z,h3,h4,h5⟩) ho h
   ·cases h
  ·rename_i T ag z' q cs ho;split at h
   ·rename_i u J O;have J:=kV J;subst J;simp only[Option.some.injEq,Prod.mk.injEq]at h;obtain⟨y,rfl⟩:=h;exact gpart (show Rel (look G st.h) R (.ep i z m 0) X from⟨_,U,Z,h3,h4,h5⟩) ho O y rfl
   ·cases h
  ·cases h
 ·rename_i i z m off;split at h
  ·rename_i T z' l ho;split at h
   ·rename_i J;have J:=kV J;subst J;exact part hx ho h
   ·cases h
  ·rename_i T ag z' q cs ho;split at h
   ·rename_i u J O;have J:=kV J;subst J;simp only[Option.some.injEq,Prod.mk.injEq]at h;obtain⟨y,rfl⟩:=h;exact gpart hx ho O y rfl
   ·cases h
  ·cases h
 ·rename_i u;split at h
  ·rename_i cs k j B;split at h
   ·rename_i hb hk1;have hb:=kV hb;have hk1:=mI hk1;cases h;obtain⟨h0,b,off,ce,T,fr,seg,tl,e1,e2,e3,e4⟩:=hx;have hl:seg.length=k:=by rw[<-e4.length,hb]
    have hoff:off+k<=ce.toList.length:=by have:=congrArg List.length e3;simp only[mL,kW]at this;omega
    refine go (cs:=ce) e1 (V:=.agg seg.toArray) ?_ B hoff (F.wrel.ro _ _ e2) ⟨seg,rfl,e4⟩;simp only[z7,j,B];rw[e3,uAt (by omega),nX (by omega)]
   ·cases h
  ·cases h
  ·rename_i hne j B;cases h;have key:∃b off ce T fr u tl,X=.pointer (some ⟨b,off,none⟩)/\R b=some (.cells ce T fr)/\ce.toList.drop off=u::tl/\Rel (look G st.h) R v u:=by
    cases v with
    |agg cs=>exact absurd rfl (hne cs)
    |_=>obtain⟨_,_,b,off,ce,T,fr,u,tl,e1,e2,e3,e4⟩:=hx;exact⟨b,off,ce,T,fr,u,tl,e1,e2,e3,e4⟩
   obtain⟨b,off,ce,T,fr,u,tl,e1,e2,e3,e4⟩:=key;have H:off<ce.toList.length:=by have:=congrArg List.length e3;simp only[mL,mC]at this;omega
   refine go (cs:=ce) e1 (V:=u) ?_ B H (F.wrel.ro _ _ e2) e4;simp only[z7,j,B];have:=congrArg (·[0]?) e3;simpa[List.getElem?_drop]using this
  ·cases h
 ·cases h
end
end Go.Am
