/-
  A part of the proof of the laws.
-/
import Derived.Test.YtckmndepnihanaaGreatDoorAm13
namespace Go.Am
open Go Go.RowKit Go.Vc
section
variable {P : Program} {c : Base} {n : Nat} {R : Ro} {G : List Res} {st : St} {a : Act} {w : World}
theorem zaQ(F:Fit c n R G st a w):∀{rs:List ResultVar}{vs:List AV},zim P st rs=some vs→∃Vs,(rs.mapM (resSem a.tmps)).run P w=.ok Vs w∧RelL (look G st.h) R vs Vs
 |[],vs,h=>by simp only[zim,Option.some.injEq]at h;subst h;exact⟨[],rfl,rfl⟩
 |.tmp t::r,vs,h=>by
  simp only[zim]at h;split at h
  ·rename_i vs' hr;cases h;obtain⟨Vs,h1,h2⟩:=zaQ F hr;refine⟨a.tmps.getD t undef::Vs,?_,_,_,rfl,F.slots t,h2⟩;rw[List.mapM_cons,resSem];simp only[pure_bind];rw[Sem.run_bind,h1,Result.andThen_ok];rfl
  ·cases h
 |.cell t Ty::r,vs,h=>by
  simp only[zim]at h;split at h
  ·rename_i v vs' hl hr;cases h;obtain⟨Vs,h1,h2⟩:=zaQ F hr;obtain⟨V,h3,h4⟩:=ziG F hl (F.slots t);have h5:(resSem a.tmps (.cell t Ty)).run P w=.ok V w:=by
    simp only[resSem];have:∃p,a.tmps.getD t undef=.pointer (some p):=by
     simp only[Instr.loadAt,Sem.run_bind]at h3;cases hx:a.tmps.getD t undef with
     |pointer q=>cases q with
      |some p=>exact⟨p,rfl⟩
      |none=>rw[hx]at h3;simp[Instr.sureAddr,stuck]at h3
     |_=>rw[hx]at h3;simp[Instr.sureAddr,stuck]at h3
    obtain⟨p,hp⟩:=this;rw[hp]at h3⊢;simpa[Instr.loadAt,Instr.sureAddr,asAddr]using h3
   refine⟨V::Vs,?_,V,Vs,rfl,h4,h2⟩;rw[List.mapM_cons,Sem.run_bind,h5,Result.andThen_ok,Sem.run_bind,h1,Result.andThen_ok];rfl
  ·cases h
theorem zlv{L:Lk}{R:Ro}{l:List AV}{vs:List Value}(h:RelL L R l vs):Rel L R (resV l) (zfD vs):=by
 match l,h with
 |[],h=>cases h;exact⟨[],rfl,rfl⟩
 |[v],⟨u,us,h1,h2,h3⟩=>cases h3;subst h1;exact h2
 |v::v'::r,⟨u,us,h1,h2,u',us',h3,h4,h5⟩=>subst h1 h3;exact⟨_,rfl,u,_,rfl,h2,u',us',rfl,h4,h5⟩
theorem znq:∀(l:List AV),idsV (resV l)=idsL l
 |[]=>rfl
 |[v]=>by simp[resV,idsL]
 |v::w::r=>rfl
theorem zrA(F:Fit c n R G st a w){fn:Func}{o:Out}(h:fin P c.m fn.results.toList st=some o):
  ∃V R' G',(results fn a.tmps).run P w=.ok V w∧WRel R' G' o.h w∧Since c R' G' o.h w∧Rel (look G' o.h) R' o.v V∧(∀b o,R b=some o→R' b=some o):=by
 unfold fin at h;split at h
 ·rename_i vs hvs;simp only[]at h;generalize hacc:reach (jW (vs.flatMap (sealJ c.m st.h)) (Am.scrub (vs.flatMap (sealJ c.m st.h)) st).h) 1000 (idsV (resV (vs.map (sealA c.m st.h)))++zdm ((jW (vs.flatMap (sealJ c.m st.h)) (Am.scrub (vs.flatMap (sealJ c.m st.h)) st).h).take c.m)) (List.range c.m)=acc at h;generalize hD:vs.flatMap (sealJ c.m st.h)=D at h hacc;split at h
  ·rename_i v' h' hnd hany hv hh;cases h;obtain⟨Vs,hrun,hrel⟩:=zaQ F hvs;have hDr:∀i∈D,c.m≤i∧∃o,hget st.h i=some o:=by intro i hi;rw[←hD,List.mem_flatMap]at hi;obtain⟨v,_,hv⟩:=hi;exact QE hv
   obtain⟨R',hRs,F',hlk,hS⟩:=F.sealed hDr;have hids:∀i∈idsL (vs.map (sealA c.m st.h)),i∉D:=by intro i hi hd;have:(idsV (resV (vs.map (sealA c.m st.h)))).any (fun i=>memN i D)=true:=List.any_eq_true.2 ⟨i,by rw[znq];exact hi,zy.2 hd⟩;rw[hany]at this;cases this
   have hsealed:=zeE F hRs hlk hS hrel (fun i hi=>by rw[←hD];exact hi) hids;obtain⟨rest,e⟩:=jV (jW D (Am.scrub D st).h) 1000 (idsV (resV (vs.map (sealA c.m st.h)))++zdm ((jW D (Am.scrub D st).h).take c.m)) (List.range c.m);rw[hacc]at e;obtain⟨Gv,hW,hSi,hσ⟩:=XP F' (Ji hnd) e hh;refine⟨zfD Vs,R',Gv,?_,hW,hSi,Q8 (fun _ _ h=>h) hσ _ _ _ hv (zlv hsealed),hRs⟩;have h':(fn.results.mapM (resSem a.tmps)).run P w=.ok Vs.toArray w:=by rw[Array.mapM_eq_mapM_toList];simp only[map_eq_pure_bind];rw[Sem.run_bind,hrun];rfl
   rw[zcO,Sem.run_bind,h',Result.andThen_ok]
   match Vs with
   |[]=>rfl
   |[v]=>rfl
   |v::u::r=>rfl
  ·cases h
 ·cases h
theorem zmz(F:Fit c n R G st a w){fn:Func}{o:Out}(h:zvC P c.m fn.results.toList st=some o):
  ∃V G',(results fn a.tmps).run P w=.ok V w∧WRel R G' o.h w∧Since c R G' o.h w∧Rel (look G' o.h) R o.v V:=by
 unfold zvC at h;split at h
 ·rename_i vs hvs;simp only[]at h;generalize hacc:reach st.h 1000 (idsV (resV vs)++zdm (st.h.take c.m)) (List.range c.m)=acc at h;split at h
  ·rename_i v' h' hnd hv hh;cases h;obtain⟨Vs,hrun,hrel⟩:=zaQ F hvs;obtain⟨rest,e⟩:=jV st.h 1000 (idsV (resV vs)++zdm (st.h.take c.m)) (List.range c.m);rw[hacc]at e;obtain⟨Gv,hW,hSi,hσ⟩:=XP F (Ji hnd) e hh;refine⟨zfD Vs,Gv,?_,hW,hSi,Q8 (fun _ _ h=>h) hσ _ _ _ hv (zlv hrel)⟩;have h':(fn.results.mapM (resSem a.tmps)).run P w=.ok Vs.toArray w:=by rw[Array.mapM_eq_mapM_toList];simp only[map_eq_pure_bind];rw[Sem.run_bind,hrun];rfl
   rw[zcO,Sem.run_bind,h',Result.andThen_ok]
   match Vs with
   |[]=>rfl
   |[v]=>rfl
   |v::u::r=>rfl
  ·cases h
 ·cases h
theorem zdU{L:Lk}{R:Ro}{val:Nat→Value}:∀{args:List AV}{vs:List Value}{i:Nat},RelL L R args vs→(∀(p:Nat)(v:Value),vs[p]? =some v→val (i+p)=v)→∀t,Rel L R (get (zjs i args) t) (val t)
 |[],_,_,_,_,t=>trivial
 |v::r,vs,i,⟨u,us,h1,h2,h3⟩,hv,t=>by
  subst h1;simp only[zjs,get];split
  ·rename_i hb;have hb:=Nat.eq_of_beq_eq_true hb;subst hb;rw[show val i=u from by simpa using hv 0 u rfl];exact h2
  ·exact zdU h3 (fun p v hp=>by have:=hv (p+1) v (by simpa using hp);rw[show i+1+p=i+(p+1)by omega];exact this) t
end
def WeakV(a b:AV):Prop:=∀L R V,Rel L R a V→Rel L R b V
def WeakL(a b:List AV):Prop:=∀L R vs,RelL L R a vs→RelL L R b vs
theorem WeakV.refl(a:AV):WeakV a a:=fun _ _ _ h=>h
theorem WeakL.refl(a:List AV):WeakL a a:=fun _ _ _ h=>h
theorem WeakL.cons{a b:AV}{p q:List AV}(h:WeakV a b)(k:WeakL p q):WeakL (a::p) (b::q):=fun _L _R _vs ⟨u,us,h1,h2,h3⟩=>⟨u,us,h1,h _ _ _ h2,k _ _ _ h3⟩
theorem WeakV.agg{p q:List AV}(k:WeakL p q):WeakV (.agg p) (.agg q):=fun _L _R _V ⟨vs,h1,h2⟩=>⟨vs,h1,k _ _ _ h2⟩
theorem WeakV.tup{p q:List AV}(k:WeakL p q):WeakV (.tup p) (.tup q):=fun _L _R _V ⟨vs,h1,h2⟩=>⟨vs,h1,k _ _ _ h2⟩
theorem WeakV.fns{fs:List FuncId}(n:Nat)(f:FuncId)(hf:fs[n]? =some f):WeakV (.fn f [] []) (.fns n fs):=fun L R V ⟨vs,us,h1,h2,h3⟩=>by have h2:vs=[]:=h2;have h3:us=[]:=h3;subst h2 h3;exact⟨f,by omega,hf,h1⟩
theorem WeakV.nils(full:Bool):WeakV .nils (.rob full []):=fun L R V h=>by have h:V=.slice none 0 0:=h;subst h;exact .inl ⟨rfl,none,0,rfl,fun _=>rfl⟩
theorem WeakV.full(l:List UInt8):WeakV (.rob true l) (.rob false l):=fun L R V h=>by
 rcases h with⟨h1,a,cap,h2,_⟩|⟨b,off,cap,cs,T,fr,seg,tl,h1,h2,h3⟩
 ·exact .inl ⟨h1,a,cap,h2,fun h=>by cases h⟩
 ·exact .inr ⟨b,off,cap,cs,T,fr,seg,tl,h1,(fun h=>by cases h),h3⟩
def OutW(o o':Out):Prop:=∀(c:Base)(R:Ro)(G:List Res)(w:World)(V:Value),WRel R G o.h w→Since c R G o.h w→Rel (look G o.h) R o.v V→∃G',WRel R G' o'.h w∧Since c R G' o'.h w∧Rel (look G' o'.h) R o'.v V
theorem OutW.of{o o':Out}(h:o.h=o'.h)(k:WeakV o.v o'.v):OutW o o':=fun _c _R G _w _V W S hv=>⟨G,h▸W,h▸S,h▸k _ _ _ hv⟩
theorem zk0{E:Env}{GP:Ro→Prop}(hmx:E.P.follows .mixedOrders=true)(hΓ:∀C∈E.Γ,SoundC E.P GP C)(hgl:∀R,GP R→GlobOK E.gl R)(hst:Stays GP){f:FuncId}{fn:Func}{code:Code}(hf:E.P.funcs[f]? =some fn)(hb:fn.body=some code)
  (hn:fn.ntmps=E.n) (hen:Yg E.P f=true) {A B:Type} {dec:List AV→Heap→Option A} {spec:A→Option B} {enc:B→Out} {cs:List (Cut B)} {an:An} {dO:Out→Option B} (m:Nat) (k:Nat)
  (encA:A→List AV) (encH:A→Heap) (hk:∀x,(encA x).length=k) (hkn:Nat.ble k E.n=true) (hm:∀x,(encH x).length=m) (h1:∀args h x,dec args h=some x→WeakL args (encA x)∧h=encH x)
  (h2:∀o r,dO o=some r→OutW o (enc r)) (h3:∀x,evF E cs code an fn.results.toList dO (encA x) (encH x)=spec x)
  (Z:∀j fl vs h,ZI fl vs h 0 cs j=none)
  (H:∀j fs n vs h y,y∈q8 E cs m code an fn.results.toList dO j fs n vs h→∀x,ZI fs.reverse vs h (n+1) cs j=some x→y=some x):
  SoundC E.P GP (Con6.c ⟨f,A,B,dec,spec,fun _ r=>enc r⟩):=by
 intro args h x r hd hs;refine⟨jt hen,fun R G w vs hGP W hargs=>?_⟩;obtain⟨hwk,rfl⟩:=h1 args h x hd;have hargs:=hwk _ _ _ hargs;have hlen:vs.length=k:=by rw[←hargs.length];exact hk x
 have hkn':=Nat.le_of_ble_eq_true hkn;refine calls_of_wp hf hb ?_;let c:Base:=⟨R,look G (encH x),fpsAll G (encH x),w,(encH x).length⟩
 have hcm:c.m=m:=hm x;have ev0:ev E cs c.m [] code an ⟨zjs 0 (encA x),encH x⟩ (zvi E.P c.m fn.results.toList dO)=some r:=(h3 x).trans hs;let a0:Act:={tmps:=vs.toArray++Array.replicate (fn.ntmps-vs.toArray.size) undef,defers:=[]}
 have F0:Fit c E.n R G ⟨zjs 0 (encA x),encH x⟩ a0 w:=by
  refine⟨W,⟨Keeps.refl _ _,fun _ _ h=>h,fun b h=>.inl h,fun i r b hi hr hb=>.inl (jk.2 ⟨i,r,hi,hr,hb⟩),fun _ _ _=>rfl,Nat.le_refl _⟩,zdU hargs fun p v hp=>?_,rfl,?_⟩
  ·have hlt:=(List.getElem?_eq_some_iff.1 hp).1;have h2:vs.toArray[p]? =some v:=by simpa using hp
   rw[Nat.zero_add];show(vs.toArray++Array.replicate (fn.ntmps-vs.toArray.size) undef).getD p undef=v;have h4:=(List.getElem?_eq_some_iff.1 hp).2;simp[Array.getElem?_append,hlt];exact h4
  ·show(vs.toArray++Array.replicate (fn.ntmps-vs.toArray.size) undef).size=E.n;simp;omega
 have ret:∀st R' G'(a:Act) w',zvh E.P c.m fn.results.toList dO st=some r→Fit c E.n R' G' st a w'→GP R'→a.defers=[]∧∃v,(results fn a.tmps).run E.P w'=.ok v w'∧
   (∃V R' G',Ending.returned v=.returned V∧WRel R' G' (enc r).h w'∧Since c R' G' (enc r).h w'∧Rel (look G' (enc r).h) R' (enc r).v V):=by
  intro st R' G' a w' h F _;unfold zvh at h;split at h
  ·rename_i o ho;split at h
   ·rename_i r' hr;cases h;obtain⟨V,R2,G2,g1,g2,g3,g4,_⟩:=zrA F ho;obtain⟨G3,q2,q3,q4⟩:=h2 o r hr c R2 G2 w' V g2 g3 g4;exact⟨F.defers,V,g1,V,R2,G3,rfl,q2,q3,q4⟩
   ·unfold zxB at h;split at h
    ·rename_i o' ho';obtain⟨V,G2,g1,g2,g3,g4⟩:=zmz F ho';obtain⟨G3,q2,q3,q4⟩:=h2 o' r h c R' G2 w' V g2 g3 g4;exact⟨F.defers,V,g1,V,R',G3,rfl,q2,q3,q4⟩
    ·cases h
  ·cases h
 exact zxR hmx hΓ hgl hst Z code [] an (zvi E.P c.m fn.results.toList dO) _ _ R G a0 w
  ⟨fun st R' G' a w' h F hG=>ret st R' G' a w' h F hG,(fun i st R' G' a w' h _ _=>by cases h),fun st R' G' a w' h F hG=>ret st R' G' a w' h F hG⟩
  (fun j fs n' vs' h' y hy x' hx'=>by rw[hcm]at hy;exact H j fs n' vs' h' y hy x' (by simpa using hx')) ev0 F0 hGP
theorem zk1{E:Env}{GP:Ro→Prop}(hmx:E.P.follows .mixedOrders=true)(hΓ:∀C∈E.Γ,SoundC E.P GP C)(hgl:∀R,GP R→GlobOK E.gl R)(hst:Stays GP){f:FuncId}{fn:Func}{code:Code}(hf:E.P.funcs[f]? =some fn)(hb:fn.body=some code)
  (hn:fn.ntmps=E.n) (hen:Yg E.P f=true) {A B:Type} {dec:List AV→Heap→Option A} {spec:A→Option B} {enc:B→Out} {cs:List (Cut B)} {an:An} {dO:Out→Option B} (m:Nat) (k:Nat)
  (encA:A→List AV) (encH:A→Heap) (hk:∀x,(encA x).length=k) (hkn:Nat.ble k E.n=true) (hm:∀x,(encH x).length=m) (h1:∀args h x,dec args h=some x→WeakL args (encA x)∧h=encH x)
  (h2:∀o r,dO o=some r→o.h=(enc r).h∧WeakV o.v (enc r).v) (h3:∀x,evF E cs code an fn.results.toList dO (encA x) (encH x)=spec x)
  (Z:∀j fl vs h,ZI fl vs h 0 cs j=none)
  (H:∀j fs n vs h y,y∈q8 E cs m code an fn.results.toList dO j fs n vs h→∀x,ZI fs.reverse vs h (n+1) cs j=some x→y=some x):
  SoundC E.P GP (Con6.c ⟨f,A,B,dec,spec,fun _ r=>enc r⟩):=
 zk0 hmx hΓ hgl hst hf hb hn hen m k encA encH hk hkn hm h1 (fun o r h=>OutW.of (h2 o r h).1 (h2 o r h).2) h3 Z H
end Go.Am
