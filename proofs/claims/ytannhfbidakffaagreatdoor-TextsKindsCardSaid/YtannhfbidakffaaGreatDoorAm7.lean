/-
  A part of the proof of the laws.
-/
import Derived.Test.YtannhfbidakffaaGreatDoorAm6
namespace Go.Am
open Go Go.RowKit Go.Vc
structure Fit(c:Base)(n:Nat)(R:Ro)(G:List Res)(st:St)(a:Act)(w:World):Prop where
 wrel:WRel R G st.h w
 since:Since c R G st.h w
 slots:∀t,Rel (look G st.h) R (get st.s t) (a.tmps.getD t undef)
 defers:a.defers=[]
 size:a.tmps.size=n
def zEj(h:Heap)(k:Nat):Prop:=∀i,k<=i->hget h i=none
def FreeR(h:Heap)(k q:Nat):Prop:=∀i,k<=i->i<k+q->hget h i=none
def YW(k q:Nat)(h h':Heap):Prop:=∀i,¬(k<=i/\i<k+q)->hget h i=none->hget h' i=none
theorem jY{h:Heap}{i j:Nat}{o:Option AO}(hi:i<h.length):hget (h.set i o) j=if i=j then o else hget h j:=by
 unfold hget;rw[nL];by_cases B:i=j
 ·subst B;simp only[hi,if_true];cases o<;>rfl
 grind
theorem zoW{h:Heap}{l:Heap}(B:∀o∈l,o=none){j:Nat}:hget (h++l) j=hget h j:=by
 unfold hget;by_cases H:j<h.length
 ·grind
 ·rw[nJ oM,uAo (l:=h) oM];cases hx:l[j-h.length]? with
  |none=>rfl
  |some o=>rw[B o (nX hx)]
theorem js{s:Slots}{d:Nat}{v:AV}{t:Nat}:get (put d v s) t=if d=t then v else get s t:=by
 induction s with
 |nil=>
  simp only[put,get];split
  ·rename_i h;rw[if_pos (mE h)]
  ·rename_i h;rw[if_neg (fun e=>by subst e;simp at h)]
 |cons x r B=>
  obtain⟨x,u⟩:=x;simp only[put];split
  ·rename_i h;have h:=mE h;subst h;simp only[get];split
   ·rename_i j;rw[if_pos (mE j)]
   grind
  ·rename_i h;split
   ·rw[get];split
    ·rename_i j;rw[if_pos (mE j)]
    ·rename_i j;rw[if_neg (fun e=>by subst e;simp at j)]
   ·simp only[get];split
    ·rename_i j;have j:=mE j
     grind
    ·exact B
theorem zyd{a:Act}{d t n:Nat}{V:Value}(B:a.tmps.size=n)(H:Nat.blt d n=true):(a.put (some d) V).tmps.getD t undef=if d=t then V else a.tmps.getD t undef:=by
 have j:d<a.tmps.size:=by
  rw[B];have:d+1<=n:=by simpa[Nat.blt]using H
  omega
 by_cases h:d=t
 ·subst h;simp[Act.put,j]
 ·simp[Act.put,h,Array.getElem?_setIfInBounds_ne h]
section
variable {P : Program} {c : Base} {n : Nat} {R : Ro} {G : List Res} {st : St} {a : Act} {w w' : World}
theorem Fit.put(F:Fit c n R G st a w){d:Option Nat}(j:zcX n d=true){v:AV}{V:Value}(hv:Rel (look G st.h) R v V):Fit c n R G ⟨putO d v st.s,st.h⟩ (a.put d V) w:=by
 cases d with
 |none=>exact F
 |some d=>
  refine⟨F.wrel,F.since,fun t=>?_,F.defers,by simpa[Act.put]using F.size⟩;show Rel _ _ (get (Am.put d v st.s) t) _;rw[js,zyd F.size j];split
  ·exact hv
  ·exact F.slots t
theorem Fit.look_live(F:Fit c n R G st a w){i:Nat}{o:AO}(ho:hget st.h i=some o):∃r,G[i]? =some r/\look G st.h i=some ⟨r.b,r.virt,r.cap,lenO o⟩/\ObjRel (look G st.h) R r o w:=by obtain⟨r,j⟩:=F.wrel.res ⟨o,ho⟩;exact⟨r,j,zU ho j,F.wrel.obj i o r ho j⟩
theorem Fit.keep(F:Fit c n R G st a w)(k:Keeps [] w w'):Fit c n R G st a w':=by
 obtain⟨H,B⟩:=yY (c:=c) (R':=R) (G':=G) (h':=st.h) (A:=[]) (Fr:=fun _=>False) F.wrel F.since k sI sI F.wrel.len (mH _) (fun i _ _=>⟨rfl,rfl⟩)
  (fun i o _ _ j _ f I=>I) (fun _ _ h=>h) (fun b o H B=>by rw[H]at B;cases B) sI sI sI
 exact⟨H,B,F.slots,F.defers,F.size⟩
theorem Fit.fresh(F:Fit c n R G st a w){i:Nat}(hi:i<st.h.length)(hm:c.m<=i)(hn:hget st.h i=none){w':World}(hk:Keeps [] w w'){ao:AO}{r:Res}(hfp:∀b∈r.fp,w.heap.size<=b)
  (ho:∀L',(∀j f,look G st.h j=some f->L' j=some f)->ObjRel L' R r ao w'):
  Fit c n R (G.set i r) ⟨st.s,st.h.set i (some ao)⟩ a w'/\look (G.set i r) (st.h.set i (some ao)) i=some ⟨r.b,r.virt,r.cap,lenO ao⟩/\
   (∀j f,look G st.h j=some f->look (G.set i r) (st.h.set i (some ao)) j=some f):=by
 have hne:∀j,(∃o,hget st.h j=some o)->i≠j:=fun j ⟨o,ho⟩ e=>by subst e;rw[hn]at ho;cases ho
 have hG:∀j,i≠j->(G.set i r)[j]? =G[j]? :=fun j h=>by rw[nL,if_neg h]
 have S:i<G.length:=by rw[F.wrel.len];exact hi
 have B:∀j f,look G st.h j=some f->look (G.set i r) (st.h.set i (some ao)) j=some f:=by intro j f Y;obtain⟨o,r',I,J,rfl⟩:=zp Y;have:=hne j ⟨o,I⟩;exact zU (by rw[jY hi,if_neg this];exact I) (by rw[hG j this];exact J)
 obtain⟨I,J⟩:=yY (c:=c) (R':=R) (G':=G.set i r) (h':=st.h.set i (some ao)) (A:=[i]) (Fr:=fun _=>False) F.wrel F.since hk sI sI (by simp[F.wrel.len]) sI
  (fun j H _=>by
   have U:i≠j:=fun e=>H (by simp[e])
   exact⟨by rw[jY hi,if_neg U],hG j U⟩)
  (fun j o _ _ k _ f Y=>B k f Y) (fun _ _ h=>h) (fun b o I J=>by rw[I]at J;cases J)
  (fun j o r' H ho' Z=>by
   simp only[mL]at H;subst H;rw[jY hi,if_pos rfl]at ho';rw[nL,if_pos rfl,if_pos S]at Z;cases ho';cases Z;refine⟨ho _ B,fun b hb=>?_⟩;have hb:=hfp b hb;refine⟨?_,.inr (.inr hb)⟩;cases hr:R b with
   |none=>rfl
   |some o=>have:=ja (F.wrel.ro _ _ hr);omega)
  (fun j k rj rk hjk H hk=>by simp only[mL]at H hk;exact absurd (H.trans hk.symm) hjk)
  (fun j H O _=>by simp only[mL]at O;subst O;omega)
 refine⟨⟨I,J,fun t=>zn (fun _ _ h=>h) _ _ (fun j _ f Y=>B j f Y) (F.slots t),F.defers,F.size⟩,?_,B⟩;exact zU (by rw[jY hi,if_pos rfl]) (by rw[nL,if_pos rfl,if_pos S])
theorem Fit.new(F:Fit c n R G st a w){i:Nat}(hi:i<st.h.length)(I:c.m<=i)(J:hget st.h i=none){ob:Obj}{ao:AO}{r:Res}(B:r.fp=[w.heap.size])
  (ho:∀L',(∀j f,look G st.h j=some f->L' j=some f)->ObjRel L' R r ao (w.alloc ob)):
  Fit c n R (G.set i r) ⟨st.s,st.h.set i (some ao)⟩ a (w.alloc ob)/\look (G.set i r) (st.h.set i (some ao)) i=some ⟨r.b,r.virt,r.cap,lenO ao⟩/\
   (∀j f,look G st.h j=some f->look (G.set i r) (st.h.set i (some ao)) j=some f):=
 F.fresh hi I J (Keeps.of_below ((Below.refl _ _).alloc (mH _) _)) (fun b H=>by rw[B]at H;simp only[mL]at H;omega) ho
theorem Fit.write(F:Fit c n R G st a w){i:Nat}{o ao:AO}{r:Res}(ho:hget st.h i=some o)(S:G[i]? =some r)(hl:lenO ao=lenO o)(hfp:r.fp=[r.b])(k:Keeps [r.b] w w')
  (hob:∀L',(∀j f,look G st.h j=some f->L' j=some f)->ObjRel L' R r ao w'):
  Fit c n R G ⟨st.s,st.h.set i (some ao)⟩ a w'/\(∀j f,look G st.h j=some f->look G (st.h.set i (some ao)) j=some f):=by
 have hi:i<st.h.length:=jr ⟨o,ho⟩;have B:∀j f,look G st.h j=some f->look G (st.h.set i (some ao)) j=some f:=by
  intro j f Y;obtain⟨o',r',J,O,rfl⟩:=zp Y;by_cases H:i=j
  ·subst H;rw[ho]at J;cases J;rw[<-hl];exact zU (by rw[jY hi,if_pos rfl]) O
  ·exact zU (by rw[jY hi,if_neg H];exact J) O
 obtain⟨J,O⟩:=yY (c:=c) (R':=R) (G':=G) (h':=st.h.set i (some ao)) (A:=[i]) (Fr:=fun _=>False) F.wrel F.since k
  (fun b hb=>.inr ⟨i,r,sI,⟨o,ho⟩,S,by rw[hfp];exact hb⟩) sI (by simp[F.wrel.len]) sI
  (fun j I _=>by
   have H:i≠j:=fun e=>I (by simp[e])
   exact⟨by rw[jY hi,if_neg H],rfl⟩)
  (fun j o _ _ k _ f Y=>B k f Y) (fun _ _ h=>h) (fun b o J O=>by rw[J]at O;cases O)
  (fun j o' r' I ho' Z=>by simp only[mL]at I;subst I;rw[jY hi,if_pos rfl]at ho';rw[S]at Z;cases ho';cases Z;exact⟨hob _ B,fun b hb=>⟨F.wrel.sepR j r ⟨o,ho⟩ S b hb,.inr (.inl ⟨j,r,sI,⟨o,ho⟩,S,hb⟩)⟩⟩)
  (fun j k rj rk hjk I hk=>by simp only[mL]at I hk;exact absurd (I.trans hk.symm) hjk)
  (fun j I U _=>by simp only[mL]at U;subst U;rw[<-F.since.same j I ⟨o,ho⟩];have e1:=zU (G:=G) ho S;rw[e1];exact B _ _ e1)
 exact⟨⟨J,O,fun t=>zn (fun _ _ h=>h) _ _ (fun j _ f Y=>B j f Y) (F.slots t),F.defers,F.size⟩,B⟩
theorem zfv(h:Heap):∀(k:Nat),wide h k=h++List.replicate k none
 |0=>by simp[wide]
 |k+1=>by rw[wide,zfv (h++[none]) k,mR,List.replicate_succ];rfl
theorem Fit.wide(F:Fit c n R G st a w)(k:Nat):∃G',Fit c n R G' ⟨st.s,wide st.h k⟩ a w/\zEj (wide st.h k) st.h.length/\(wide st.h k).length=st.h.length+k:=by
 rw[zfv];have hh:∀j,hget (st.h++List.replicate k none) j=hget st.h j:=fun j=>zoW (fun o ho=>(List.mem_replicate.1 ho).2)
 have S:∀j,live st.h j->j<G.length:=fun j I=>by rw[F.wrel.len];exact jr I
 have U:∀j,live st.h j->(G++List.replicate k (⟨0,false,0,[]⟩:Res))[j]? =G[j]? :=fun j I=>nH (S j I)
 have J:∀j f,look G st.h j=some f->look (G++List.replicate k (⟨0,false,0,[]⟩:Res)) (st.h++List.replicate k none) j=some f:=by intro j f O;obtain⟨o',Y,B,H,rfl⟩:=zp O;exact zU ((hh j).trans B) ((U j ⟨o',B⟩).trans H)
 obtain⟨B,H⟩:=yY (c:=c) (R':=R) (G':=G++List.replicate k ⟨0,false,0,[]⟩) (h':=st.h++List.replicate k none) (X:=[]) (A:=[]) (Fr:=fun _=>False) F.wrel F.since (Keeps.refl _ _) sI sI
  (by simp[F.wrel.len]) sI (fun j _ I=>⟨hh j,U j (by obtain⟨o,ho⟩:=I;exact⟨o,(hh j)▸ho⟩)⟩) (fun j o _ _ k _ f O=>J k f O) (fun _ _ h=>h) (fun b o B H=>by rw[B]at H;cases H) sI sI sI
 refine⟨_,⟨B,H,fun t=>zn (fun _ _ h=>h) _ _ (fun j _ f O=>J j f O) (F.slots t),F.defers,F.size⟩,fun j I=>?_,sI⟩;rw[hh];unfold hget
 grind
theorem zcc{w:World}{r:Res}{T:TypeId}{z k:Nat}{C:List Value->Prop}(h:RowAt w r T z k C)(hv:r.virt=false):
  ∃cs tl fr,w.heap[r.b]? =some (.cells (cs++tl).toArray T fr)/\C cs/\cs.length=k*z:=by
 rcases h with⟨j,_⟩|⟨_,_,_,cs,tl,fr,j,H,B,_⟩
 ·grind
 ·grind
theorem RelR_get{L:Lk}{R:Ro}{z:Nat}:∀{l:List AV}{cs:List Value},RelR L R z l cs->∀{i:Nat}{v:AV},l[i]? =some v->
  (∃xs,v=.agg xs/\xs.length=z/\RelL L R xs ((cs.drop (i*z)).take z))\/(jb v=true/\z=1/\∃u,cs[i]? =some u/\Rel L R v u)
 |[],_,_,i,v,h=>by simp at h
 |x::r,cs,hr,i,v,h=>by
  have key:(∃xs a b,x=.agg xs/\cs=a++b/\xs.length=z/\RelL L R xs a/\RelR L R z r b)\/(∃u I,cs=u::I/\z=1/\jb x=true/\Rel L R x u/\RelR L R z r I):=by
   cases x with
   |agg xs=>obtain⟨a,b,J,H,j,B⟩:=hr;exact .inl ⟨xs,a,b,rfl,J,H,j,B⟩
   |_=>obtain⟨u,I,J,H,j,B,U⟩:=hr;exact .inr ⟨u,I,J,H,j,B,U⟩
  rcases key with⟨xs,a,b,rfl,rfl,H,j,B⟩|⟨u,I,rfl,rfl,j,B,U⟩
  ·have ha:a.length=z:=by rw[<-j.length,H]
   cases i with
   |zero=>simp only[uAB,Option.some.injEq]at h;subst h;refine .inl ⟨xs,rfl,H,?_⟩;rw[Nat.zero_mul,nS,uAK oM,nQ oM];exact j
   |succ i=>
    simp only[uAp]at h;have hd:((a++b).drop ((i+1)*z))=b.drop (i*z):=by rw[uAD,nZ,<-mZ,<-ha,List.drop_left]
    rcases RelR_get B h with⟨ys,O,S,Y⟩|⟨O,S,u,Y,Z⟩
    ·grind
    ·grind
  ·cases i with
   |zero=>simp only[uAB,Option.some.injEq]at h;subst h;exact .inr ⟨j,rfl,u,rfl,B⟩
   |succ i=>
    simp only[uAp]at h;rcases RelR_get U h with⟨ys,O,S,Y⟩|⟨O,S,u',Y,Z⟩
    ·grind
    ·grind
theorem zos{t:TypeId}{cs tl:List Value}{p z off:Nat}{V:Value}{k:Nat}(h:jg P t ((cs.drop p).take z) off=some V)(B:zK P t=some k)(H:off+k<=((cs.drop p).take z).length)(hp:p<=cs.length)(ha:zB P t=some true\/(zB P t=some false/\k=1)):
  jg P t (cs++tl) (p+off)=some V:=by
 simp only[mI,mP]at H;unfold jg at h⊢;rcases ha with j|⟨j,rfl⟩
 ·rw[j,B]at h⊢;simp only[Option.some.injEq]at h⊢;rw[<-h];congr 2;rw[nT oM,uAK (by simp;omega)];rw[List.drop_take,List.take_take,mZ];congr 1;omega
 ·grind
theorem zoK(F:Fit c n R G st a w){t:TypeId}{x v:AV}{X:Value}(h:zcu P st.h t x=some (true,v))(hx:Rel (look G st.h) R x X):
  ∃V,(Instr.loadAt t X).run P w=.ok V w/\Rel (look G st.h) R v V:=by
 have go:∀{b off sz:Nat}{cs:Array Value}{T:TypeId}{fr:Nat×Nat}{V:Value},X=.pointer (some ⟨b,off,none⟩)->jg P t cs.toList off=some V->zK P t=some sz->off+sz<=cs.toList.length->
   w.heap[b]? =some (.cells cs T fr)->Rel (look G st.h) R v V->∃V,(Instr.loadAt t X).run P w=.ok V w/\Rel (look G st.h) R v V:=by
  intro b off sz cs T fr V hX hp hs hl hb hv;subst hX;exact⟨V,zhj hp hs hl hb,hv⟩
 have cell:∀{i:Nat}{f:Info}{o:AO}{T:TypeId}{m:Int}{k:Nat}{C:List Value->Prop}{V:Value},hget st.h i=some o->look G st.h i=some f->f.virt=false->X=.pointer (some ⟨f.b,m.toNat*1+0,none⟩)->
   (∀r,ObjRel (look G st.h) R r o w->RowAt w r T 1 k C)->inIx m k=true->zB P t=some false->zK P t=some 1->(∀cs,C cs->cs[m.toNat]? =some V)->Rel (look G st.h) R v V->
   ∃V,(Instr.loadAt t X).run P w=.ok V w/\Rel (look G st.h) R v V:=by
  intro i f o T m k C V ho hf hvt hX J B j H hC hv;obtain⟨o',r,Z,h2,rfl⟩:=zp hf;rw[ho]at Z;cases Z;obtain⟨h3,h4⟩:=zw.1 B;obtain⟨cs,tl,fr,S,U,e3⟩:=zcc (J r (F.wrel.obj i o r ho h2)) hvt;have I:m.toNat<cs.length:=oM
  refine go (cs:=(cs++tl).toArray) hX (V:=V) ?_ H ?_ S hv
  ·simp only[jg,j,H,mX,uAa]
   grind
  ·simp;omega
 have part:∀{i z:Nat}{m:Int}{off:Nat}{T:TypeId}{l:List AV},Rel (look G st.h) R (.ep i z m off) X->hget st.h i=some (.vals T z l)->zlP P t z l m off=some (true,v)->
   ∃V,(Instr.loadAt t X).run P w=.ok V w/\Rel (look G st.h) R v V:=by
  intro i z m off T l hx ho h;obtain⟨f,Z,h2,h3,h4,h5⟩:=hx;unfold zlP at h;split at h
  ·rename_i cc u hlf hoff hsz1;simp only[Option.some.injEq,Prod.mk.injEq,mF]at h;obtain⟨⟨B,hlb,rfl⟩,rfl⟩:=h;have hoff:off+1<=z:=by simpa[Nat.blt]using hoff
   obtain⟨cs',hat',hcl⟩:=zhP hlb;obtain⟨j,_,_,hrel,_⟩:=WX hlf;obtain⟨o',r,g1,g2,rfl⟩:=zp Z;rw[ho]at g1;cases g1;obtain⟨q1,q2⟩:=zw.1 B;have I:m.toNat<l.length:=oM
   obtain⟨hids,J⟩:=F.wrel.obj i _ r ho g2;obtain⟨cs,tl,fr,S,U,e3⟩:=zcc J h2;have hat:l[m.toNat]? =some (.agg cs'):=by rw[mJ I,<-hat'];unfold atV;rw[mN,mJ I];rfl
   have hmul:m.toNat*z+z<=l.length*z:=by
    have:(m.toNat+1)*z<=l.length*z:=nC z oM
    grind
   rcases RelR_get U hat with⟨xs,x1,x2,x3⟩|⟨x1,_⟩
   ·cases x1;obtain⟨V,p1,p2⟩:=x3.get (YU (k:=off) oM);rw[List.getElem?_take,if_pos oM,nI]at p1;rw[hat']at hrel;refine go (cs:=(cs++tl).toArray) h5 (V:=V) ?_ hsz1 ?_ S (hrel _ _ _ p2)
    ·simp only[jg,j,hsz1]
     grind
    ·simp;omega
   ·cases x1
  split at h
  ·rename_i cs' hat';split at h
   ·rename_i u Y;simp only[Option.some.injEq,Prod.mk.injEq]at h;obtain⟨B,rfl⟩:=h;obtain⟨o',r,g1,g2,rfl⟩:=zp Z;rw[ho]at g1;cases g1;obtain⟨q1,q2⟩:=zw.1 B;have I:m.toNat<l.length:=oM
    obtain⟨hids,J⟩:=F.wrel.obj i _ r ho g2;obtain⟨cs,tl,fr,S,U,e3⟩:=zcc J h2;have hat:l[m.toNat]? =some (.agg cs'):=by rw[mJ I,<-hat'];unfold atV;rw[mN,mJ I];rfl
    have hmul:m.toNat*z+z<=l.length*z:=by
     have:(m.toNat+1)*z<=l.length*z:=nC z oM
     grind
    rcases RelR_get U hat with⟨xs,x1,x2,x3⟩|⟨x1,_⟩
    ·cases x1;obtain⟨V,k,p1,p2,p3,p4⟩:=Vl (P:=P) Y x3;have j:zB P t=some true\/(zB P t=some false/\k=1):=by
      unfold Vm at Y
      grind
     simp only[mI,mP]at p4;refine go (cs:=(cs++tl).toArray) h5 (by simpa using zos (tl:=tl) p1 p3 (by simp only[mI,mP];exact p4) oM j) p3 ?_ S p2;simp;omega
    ·cases x1
   ·cases h
  ·cases h
 have gpart:∀{i z:Nat}{m:Int}{off:Nat}{T:TypeId}{ag:Bool}{q:Nat}{l:List AV}{u:AV},Rel (look G st.h) R (.ep i z m off) X->hget st.h i=some (.gens T ag z q l)->Vm P t ((l.drop (m.toNat*z)).take z) off=some u->
   inIx m q=true->u=v->∃V,(Instr.loadAt t X).run P w=.ok V w/\Rel (look G st.h) R v V:=by
  intro i z m off T ag q l u hx ho Y B huv;subst huv;obtain⟨f,Z,h2,h3,h4,h5⟩:=hx;obtain⟨o',r,g1,g2,rfl⟩:=zp Z;rw[ho]at g1;cases g1;obtain⟨q1,q2⟩:=zw.1 B;have J:=F.wrel.obj i _ r ho g2;simp only[ObjRel]at J;obtain⟨cs,tl,fr,S,U,e3⟩:=zcc J h2;have hmul:m.toNat*z+z<=q*z:=by
   have:(m.toNat+1)*z<=q*z:=nC z oM
   grind
  obtain⟨V,k,p1,p2,p3,p4⟩:=Vl (P:=P) Y ((U.drop (m.toNat*z)).take z);have j:zB P t=some true\/(zB P t=some false/\k=1):=by
   unfold Vm at Y
   grind
  simp only[mI,mP]at p4;refine go (cs:=(cs++tl).toArray) h5 (by simpa using zos (tl:=tl) p1 p3 (by simp only[mI,mP];exact p4) oM j) p3 ?_ S p2;simp;omega
 unfold zcu at h;split at h
 ·rename_i i o;obtain⟨f,Z,h2,h3⟩:=hx;split at h
  ·rename_i T cs ho;split at h
   ·rename_i u Y;cases h;obtain⟨r,S,U,e3,e4,vs,e5,e6⟩:=F.look_live ho;rw[Z]at U;cases U;obtain⟨V,m,p1,p2,p3,p4⟩:=Vl (P:=P) Y e6;exact go (cs:=vs.toArray) h3 (by simpa using p1) p3 (by simpa using p4) e5 p2
   ·cases h
  ·cases h
 ·rename_i i z m;obtain⟨f,Z,h2,h3,h4,h5⟩:=hx;split at h
  ·rename_i T l ho Y H O;have O:=mE O;subst O;simp only[Option.some.injEq,Prod.mk.injEq]at h;obtain⟨B,rfl⟩:=h;refine cell (V:=.int .u8 (byteAt l m)) ho Z h2 h5 (fun r hr=>by simpa only[ObjRel]using hr) B (by simp[zB,Y]) H (fun cs hcs=>?_) rfl;subst hcs;obtain⟨q1,q2⟩:=zw.1 B;have I:m.toNat<l.length:=oM
   simp only[nK,mJ I,uAA,u8V,byteAt,mN,Option.getD_some]
  ·rename_i T k l k' ho Y H O;have O:=mE O;subst O;split at h
   ·rename_i hk;simp only[kEq,decide_eq_true_eq]at hk;simp only[Option.some.injEq,Prod.mk.injEq]at h;obtain⟨B,rfl⟩:=h;refine cell (V:=.int k (atI l m)) ho Z h2 h5 (fun r hr=>by simpa only[ObjRel]using hr) B (by simp[zB,Y]) H (fun cs hcs=>?_) rfl;subst hcs;obtain⟨q1,q2⟩:=zw.1 B;have I:m.toNat<l.length:=oM
    simp only[nK,mJ I,uAA,atI,mN,Option.getD_some]
   ·cases h
  ·rename_i T l ho Y H O;have O:=mE O;subst O;simp only[Option.some.injEq,Prod.mk.injEq]at h;obtain⟨B,rfl⟩:=h;refine cell (V:=.string (bs (atS l m))) ho Z h2 h5 (fun r hr=>by simpa only[ObjRel]using hr) B (by simp[zB,Y]) H (fun cs hcs=>?_) rfl;subst hcs;obtain⟨q1,q2⟩:=zw.1 B;have I:m.toNat<l.length:=oM
   simp only[nK,mJ I,uAA,atS,mN,Option.getD_some]
  ·rename_i T z' l d q ho Y H;split at h
   ·rename_i cc u O hq hsh;have O:=mE O;have hq:=mE hq;subst O hq;simp only[Option.some.injEq,Prod.mk.injEq,mF]at h;obtain⟨⟨B,rfl⟩,rfl⟩:=h;obtain⟨o',r,g1,g2,rfl⟩:=zp Z;rw[ho]at g1;cases g1;obtain⟨q1,q2⟩:=zw.1 B;have I:m.toNat<l.length:=oM
    have hobj:=F.wrel.obj i _ r ho g2;obtain⟨hids,J⟩:=hobj;obtain⟨cs,tl,fr,S,U,e3⟩:=zcc J h2;have hat:l[m.toNat]? =some (atV l m):=by rw[mJ I];unfold atV;rw[mN,mJ I];rfl
    have hmul:m.toNat*z+z<=l.length*z:=by
     have:(m.toNat+1)*z<=l.length*z:=nC z oM
     grind
    rcases RelR_get U hat with⟨xs,x1,x2,x3⟩|⟨x1,x2,u',x3,x4⟩
    ·rcases shapeA_rel hsh with⟨j,cs',ys,y1,y2,y3,y4,_⟩|⟨_,y1,_⟩
     ·rw[x1]at y1;cases y1;refine go (cs:=(cs++tl).toArray) h5 (V:=.agg ((cs.drop (m.toNat*z)).take z).toArray) ?_ H ?_ S ?_
      ·simp only[jg,j,H,uAa]
       grind
      ·simp;omega
      ·rw[y2];exact⟨_,rfl,y4 _ _ _ x3⟩
     ·rw[x1]at y1;cases y1
    ·subst x2;rcases shapeA_rel hsh with⟨_,cs',ys,y1,_⟩|⟨j,_,_,y3,_⟩
     ·rw[y1]at x1;cases x1
     ·refine go (cs:=(cs++tl).toArray) h5 (V:=u') ?_ H ?_ S (y3 _ _ _ x4)
      ·simp only[jg,j,H,uAa,mX]
       grind
      ·simp;omega
   ·rename_i O _;have O:=mE O;subst O;exact part (show Rel (look G st.h) R (.ep i z m 0) X from⟨_,Z,h2,h3,h4,h5⟩) ho h
   ·cases h
  ·rename_i T ag z' q cs ho;split at h
   ·rename_i u O Y;have O:=mE O;subst O;simp only[Option.some.injEq,Prod.mk.injEq]at h;obtain⟨B,rfl⟩:=h;exact gpart (show Rel (look G st.h) R (.ep i z m 0) X from⟨_,Z,h2,h3,h4,h5⟩) ho Y B rfl
   ·cases h
  ·cases h
 ·rename_i i z m off;split at h
  ·rename_i T z' l ho;split at h
   ·rename_i O;have O:=mE O
    grind
   ·cases h
  ·rename_i T ag z' q cs ho;split at h
   ·rename_i u O Y;have O:=mE O
    grind
   ·cases h
  ·cases h
 ·rename_i u;split at h
  ·rename_i cs k j H;split at h
   ·rename_i hb hk1;have hb:=mE hb;have hk1:=mQ hk1;cases h;obtain⟨h0,b,off,ce,T,fr,seg,tl,S,U,e3,e4⟩:=hx;have hl:seg.length=k:=by rw[<-e4.length,hb]
    have hoff:off+k<=ce.toList.length:=by
     have:=congrArg List.length e3
     grind
    refine go (cs:=ce) S (V:=.agg seg.toArray) ?_ H hoff (F.wrel.ro _ _ U) ⟨seg,rfl,e4⟩;simp only[jg,j,H]
    grind
   ·cases h
  ·cases h
  ·rename_i hne j H;cases h;have key:∃b off ce T fr u tl,X=.pointer (some ⟨b,off,none⟩)/\R b=some (.cells ce T fr)/\ce.toList.drop off=u::tl/\Rel (look G st.h) R v u:=by
    cases v with
    |agg cs=>exact absurd rfl (hne cs)
    |_=>obtain⟨_,_,b,off,ce,T,fr,u,tl,S,U,e3,e4⟩:=hx;exact⟨b,off,ce,T,fr,u,tl,S,U,e3,e4⟩
   obtain⟨b,off,ce,T,fr,u,tl,S,U,e3,e4⟩:=key;have I:off<ce.toList.length:=by
    have:=congrArg List.length e3
    grind
   refine go (cs:=ce) S (V:=u) ?_ H I (F.wrel.ro _ _ U) e4;simp only[jg,j,H];have:=congrArg (·[0]?) e3
   grind
  ·cases h
 ·cases h
end
end Go.Am
