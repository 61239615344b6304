/-
  A part of the proof of the laws.
-/
import Derived.Test.YtannhfbidakffaaGreatDoorAm13
namespace Go.Am
open Go Go.RowKit Go.Vc
section
variable {P : Program} {c : Base} {n : Nat} {R : Ro} {G : List Res} {st : St} {a : Act} {w : World}
theorem zfB(F:Fit c n R G st a w):∀{O:List ResultVar}{vs:List AV},zoe P st O=some vs->∃Vs,(O.mapM (resSem a.tmps)).run P w=.ok Vs w/\RelL (look G st.h) R vs Vs
 |[],vs,h=>by simp only[zoe,Option.some.injEq]at h;subst h;exact⟨[],rfl,rfl⟩
 |.tmp t::r,vs,h=>by
  simp only[zoe]at h;split at h
  ·rename_i J B;cases h;obtain⟨Vs,H,I⟩:=zfB F B;refine⟨a.tmps.getD t undef::Vs,?_,_,_,rfl,F.slots t,I⟩;rw[List.mapM_cons,resSem];simp only[pure_bind];rw[Sem.run_bind,H,Result.andThen_ok];rfl
  ·cases h
 |.cell t Ty::r,vs,h=>by
  simp only[zoe]at h;split at h
  ·rename_i v J Y B;cases h;obtain⟨Vs,H,I⟩:=zfB F B;obtain⟨V,j,U⟩:=zoK F Y (F.slots t);have S:(resSem a.tmps (.cell t Ty)).run P w=.ok V w:=by
    simp only[resSem];have:∃p,a.tmps.getD t undef=.pointer (some p):=by
     simp only[Instr.loadAt,Sem.run_bind]at j;cases hx:a.tmps.getD t undef with
     |pointer q=>cases q with
      |some p=>exact⟨p,rfl⟩
      |none=>rw[hx]at j;simp[Instr.sureAddr,stuck]at j
     |_=>rw[hx]at j;simp[Instr.sureAddr,stuck]at j
    obtain⟨p,hp⟩:=this;rw[hp]at j⊢;simpa[Instr.loadAt,Instr.sureAddr,asAddr]using j
   refine⟨V::Vs,?_,V,Vs,rfl,U,I⟩;rw[List.mapM_cons,Sem.run_bind,S,Result.andThen_ok,Sem.run_bind,H,Result.andThen_ok];rfl
  ·cases h
theorem zs1{L:Lk}{R:Ro}{l:List AV}{vs:List Value}(h:RelL L R l vs):Rel L R (resV l) (zlc vs):=by
 match l,h with
 |[],h=>cases h;exact⟨[],rfl,rfl⟩
 |[v],⟨u,us,h1,h2,h3⟩=>cases h3;subst h1;exact h2
 |v::j::r,⟨u,us,h1,h2,u',us',h3,h4,h5⟩=>subst h1 h3;exact⟨_,rfl,u,_,rfl,h2,u',us',rfl,h4,h5⟩
theorem zvj:∀(l:List AV),idsV (resV l)=idsL l
 |[]=>rfl
 |[v]=>by simp[resV,idsL]
 |v::w::r=>rfl
theorem zyj(F:Fit c n R G st a w){fn:Func}{o:Out}(h:fin P c.m fn.results.toList st=some o):
  ∃V R' G',(results fn a.tmps).run P w=.ok V w/\WRel R' G' o.h w/\Since c R' G' o.h w/\Rel (look G' o.h) R' o.v V/\(∀b o,R b=some o->R' b=some o):=by
 unfold fin at h;split at h
 ·rename_i vs S;simp only[]at h;generalize hacc:reach (yn (vs.flatMap (sealJ c.m st.h)) (Am.scrub (vs.flatMap (sealJ c.m st.h)) st).h) 1000 (idsV (resV (vs.map (sealA c.m st.h)))++zh4 ((yn (vs.flatMap (sealJ c.m st.h)) (Am.scrub (vs.flatMap (sealJ c.m st.h)) st).h).take c.m)) (List.range c.m)=acc at h;generalize hD:vs.flatMap (sealJ c.m st.h)=D at h hacc;split at h
  ·rename_i v' h' hnd B hv hh;cases h;obtain⟨Vs,I,J⟩:=zfB F S;have Z:∀i∈D,c.m<=i/\∃o,hget st.h i=some o:=by intro i hi;rw[<-hD,List.mem_flatMap]at hi;obtain⟨v,_,hv⟩:=hi;exact WA hv
   obtain⟨R',O,F',Y,hS⟩:=F.sealed Z;have H:∀i∈idsL (vs.map (sealA c.m st.h)),i∉D:=by intro i hi hd;have:(idsV (resV (vs.map (sealA c.m st.h)))).any (fun i=>memN i D)=true:=List.any_eq_true.2 ⟨i,by rw[zvj];exact hi,zG.2 hd⟩;rw[B]at this;cases this
   have j:=zjX F O Y hS J (fun i hi=>by rw[<-hD];exact hi) H;obtain⟨rest,e⟩:=yl (yn D (Am.scrub D st).h) 1000 (idsV (resV (vs.map (sealA c.m st.h)))++zh4 ((yn D (Am.scrub D st).h).take c.m)) (List.range c.m);rw[hacc]at e;obtain⟨Gv,hW,U,hσ⟩:=zbE F' (QS hnd) e hh;refine⟨zlc Vs,R',Gv,?_,hW,U,zak (fun _ _ h=>h) hσ _ _ _ hv (zs1 j),O⟩;have h':(fn.results.mapM (resSem a.tmps)).run P w=.ok Vs.toArray w:=by rw[Array.mapM_eq_mapM_toList];simp only[map_eq_pure_bind];rw[Sem.run_bind,I];rfl
   rw[zhl,Sem.run_bind,h',Result.andThen_ok]
   match Vs with
   |[]=>rfl
   |[v]=>rfl
   |v::u::r=>rfl
  ·cases h
 ·cases h
theorem zmE(F:Fit c n R G st a w){fn:Func}{o:Out}(h:zar P c.m fn.results.toList st=some o):
  ∃V G',(results fn a.tmps).run P w=.ok V w/\WRel R G' o.h w/\Since c R G' o.h w/\Rel (look G' o.h) R o.v V:=by
 unfold zar at h;split at h
 ·rename_i vs I;simp only[]at h;generalize hacc:reach st.h 1000 (idsV (resV vs)++zh4 (st.h.take c.m)) (List.range c.m)=acc at h;split at h
  ·rename_i Y h' J hv hh;cases h;obtain⟨Vs,j,B⟩:=zfB F I;obtain⟨O,e⟩:=yl st.h 1000 (idsV (resV vs)++zh4 (st.h.take c.m)) (List.range c.m);rw[hacc]at e;obtain⟨Gv,U,H,S⟩:=zbE F (QS J) e hh;refine⟨zlc Vs,Gv,?_,U,H,zak (fun _ _ h=>h) S _ _ _ hv (zs1 B)⟩;have h':(fn.results.mapM (resSem a.tmps)).run P w=.ok Vs.toArray w:=by rw[Array.mapM_eq_mapM_toList];simp only[map_eq_pure_bind];rw[Sem.run_bind,j];rfl
   rw[zhl,Sem.run_bind,h',Result.andThen_ok]
   match Vs with
   |[]=>rfl
   |[v]=>rfl
   |v::u::r=>rfl
  ·cases h
 ·cases h
theorem zdc{L:Lk}{R:Ro}{val:Nat->Value}:∀{j:List AV}{vs:List Value}{i:Nat},RelL L R j vs->(∀(p:Nat)(v:Value),vs[p]? =some v->val (i+p)=v)->∀t,Rel L R (get (zel i j) t) (val t)
 |[],_,_,_,_,t=>trivial
 |v::r,vs,i,⟨u,us,h1,h2,h3⟩,hv,t=>by
  subst h1;simp only[zel,get];split
  ·rename_i B;have B:=mE B;subst B;rw[show val i=u from by simpa using hv 0 u rfl];exact h2
  ·exact zdc h3 (fun p v hp=>by have:=hv (p+1) v (by simpa using hp);rw[show i+1+p=i+(p+1)by omega];exact this) t
end
def WeakV(a b:AV):Prop:=∀L R V,Rel L R a V->Rel L R b V
def WeakL(a b:List AV):Prop:=∀L R vs,RelL L R a vs->RelL L R b vs
theorem WeakV.refl(a:AV):WeakV a a:=fun _ _ _ h=>h
theorem WeakL.refl(a:List AV):WeakL a a:=fun _ _ _ h=>h
theorem WeakL.cons{a b:AV}{p q:List AV}(h:WeakV a b)(k:WeakL p q):WeakL (a::p) (b::q):=fun _ _ _ ⟨u,j,B,I,H⟩=>⟨u,j,B,h _ _ _ I,k _ _ _ H⟩
theorem WeakV.agg{p q:List AV}(k:WeakL p q):WeakV (.agg p) (.agg q):=fun _ _ _ ⟨vs,j,B⟩=>⟨vs,j,k _ _ _ B⟩
theorem WeakV.tup{p q:List AV}(k:WeakL p q):WeakV (.tup p) (.tup q):=fun _ _ _ ⟨vs,j,B⟩=>⟨vs,j,k _ _ _ B⟩
theorem WeakV.fns{fs:List FuncId}(n:Nat)(f:FuncId)(J:fs[n]? =some f):WeakV (.fn f [] []) (.fns n fs):=fun L R V ⟨vs,H,I,B,j⟩=>by have B:vs=[]:=B;have j:H=[]:=j;subst B j;exact⟨f,oM,J,I⟩
theorem WeakV.nils(full:Bool):WeakV .nils (.rob full []):=fun L R V h=>by have h:V=.slice none 0 0:=h;subst h;exact .inl ⟨rfl,none,0,rfl,fun _=>rfl⟩
theorem WeakV.full(l:uAU):WeakV (.rob true l) (.rob false l):=fun L R V h=>by
 rcases h with⟨j,a,cap,B,_⟩|⟨b,off,cap,cs,T,fr,seg,tl,j,B,H⟩
 ·exact .inl ⟨j,a,cap,B,fun h=>by cases h⟩
 ·exact .inr ⟨b,off,cap,cs,T,fr,seg,tl,j,(fun h=>by cases h),H⟩
def OutW(o o':Out):Prop:=∀(c:Base)(R:Ro)(G:List Res)(w:World)(V:Value),WRel R G o.h w->Since c R G o.h w->Rel (look G o.h) R o.v V->∃G',WRel R G' o'.h w/\Since c R G' o'.h w/\Rel (look G' o'.h) R o'.v V
theorem OutW.of{o o':Out}(h:o.h=o'.h)(k:WeakV o.v o'.v):OutW o o':=fun _ _ G _ _ W S hv=>⟨G,h▸W,h▸S,h▸k _ _ _ hv⟩
theorem ziy{E:Env}{GP:Ro->Prop}(hmx:E.P.follows .mixedOrders=true)(hΓ:∀C∈E.Γ,SoundC E.P GP C)(hgl:∀R,GP R->GlobOK E.gl R)(hst:Stays GP){f:FuncId}{fn:Func}{S:Code}(hf:E.P.funcs[f]? =some fn)(hb:fn.body=some S)
  (hn:fn.ntmps=E.n) (hen:Z2 E.P f=true) {A B:Type} {dec:List AV->Heap->Option A} {Y:A->Option B} {enc:B->Out} {cs:List (Cut B)} {an:An} {dO:Out->Option B} (m:Nat) (k:Nat)
  (O:A->List AV) (I:A->Heap) (hk:∀x,(O x).length=k) (hkn:Nat.ble k E.n=true) (hm:∀x,(I x).length=m) (h1:∀U h x,dec U h=some x->WeakL U (O x)/\h=I x)
  (h2:∀o r,dO o=some r->OutW o (enc r)) (h3:∀x,evF E cs S an fn.results.toList dO (O x) (I x)=Y x)
  (Z:∀j fl vs h,YS fl vs h 0 cs j=none)
  (H:∀j fs n vs h y,y∈Qy E cs m S an fn.results.toList dO j fs n vs h->∀x,YS fs.reverse vs h (n+1) cs j=some x->y=some x):
  SoundC E.P GP (Con6.c ⟨f,A,B,dec,Y,fun _ r=>enc r⟩):=by
 intro U h x r hd hs;refine⟨jk hen,fun R G w vs hGP W J=>?_⟩;obtain⟨hwk,rfl⟩:=h1 U h x hd;have J:=hwk _ _ _ J;have hlen:vs.length=k:=by rw[<-J.length];exact hk x
 have hkn':=mQ hkn;refine calls_of_wp hf hb ?_;let c:Base:=⟨R,look G (I x),fpsAll G (I x),w,(I x).length⟩
 have hcm:c.m=m:=hm x;have ev0:ev E cs c.m [] S an ⟨zel 0 (O x),I x⟩ (zBp E.P c.m fn.results.toList dO)=some r:=(h3 x).trans hs;let a0:Act:={tmps:=vs.toArray++Array.replicate (fn.ntmps-vs.toArray.size) undef,defers:=[]}
 have F0:Fit c E.n R G ⟨zel 0 (O x),I x⟩ a0 w:=by
  refine⟨W,⟨Keeps.refl _ _,fun _ _ h=>h,fun b h=>.inl h,fun i r b hi hr hb=>.inl (zJ.2 ⟨i,r,hi,hr,hb⟩),fun _ _ _=>rfl,mH _⟩,zdc J fun p v hp=>?_,rfl,?_⟩
  ·have hlt:=(mG.1 hp).1;have h2:vs.toArray[p]? =some v:=by simpa using hp
   rw[uAn];show(vs.toArray++Array.replicate (fn.ntmps-vs.toArray.size) undef).getD p undef=v;have h4:=(mG.1 hp).2;simp[Array.getElem?_append,hlt];exact h4
  ·show(vs.toArray++Array.replicate (fn.ntmps-vs.toArray.size) undef).size=E.n;simp;omega
 have ret:∀st R' G'(a:Act) w',zBo E.P c.m fn.results.toList dO st=some r->Fit c E.n R' G' st a w'->GP R'->a.defers=[]/\∃v,(results fn a.tmps).run E.P w'=.ok v w'/\
   (∃V R' G',Ending.returned v=.returned V/\WRel R' G' (enc r).h w'/\Since c R' G' (enc r).h w'/\Rel (look G' (enc r).h) R' (enc r).v V):=by
  intro st R' G' a w' h F _;unfold zBo at h;split at h
  ·rename_i o ho;split at h
   ·rename_i r' hr;cases h;obtain⟨V,R2,G2,g1,g2,g3,g4,_⟩:=zyj F ho;obtain⟨G3,q2,q3,q4⟩:=h2 o r hr c R2 G2 w' V g2 g3 g4;exact⟨F.defers,V,g1,V,R2,G3,rfl,q2,q3,q4⟩
   ·unfold zEw at h;split at h
    ·rename_i o' ho';obtain⟨V,G2,g1,g2,g3,g4⟩:=zmE F ho';obtain⟨G3,q2,q3,q4⟩:=h2 o' r h c R' G2 w' V g2 g3 g4;exact⟨F.defers,V,g1,V,R',G3,rfl,q2,q3,q4⟩
    ·cases h
  ·cases h
 exact zER hmx hΓ hgl hst Z S [] an (zBp E.P c.m fn.results.toList dO) _ _ R G a0 w
  ⟨fun st R' G' a w' h F hG=>ret st R' G' a w' h F hG,(fun i st R' G' a w' h _ _=>by cases h),fun st R' G' a w' h F hG=>ret st R' G' a w' h F hG⟩
  (fun j fs n' vs' h' y hy x' hx'=>by rw[hcm]at hy;exact H j fs n' vs' h' y hy x' (by simpa using hx')) ev0 F0 hGP
theorem zsf{E:Env}{GP:Ro->Prop}(hmx:E.P.follows .mixedOrders=true)(hΓ:∀C∈E.Γ,SoundC E.P GP C)(hgl:∀R,GP R->GlobOK E.gl R)(hst:Stays GP){f:FuncId}{fn:Func}{O:Code}(hf:E.P.funcs[f]? =some fn)(hb:fn.body=some O)
  (hn:fn.ntmps=E.n) (hen:Z2 E.P f=true) {A B:Type} {Y:List AV->Heap->Option A} {S:A->Option B} {enc:B->Out} {cs:List (Cut B)} {an:An} {dO:Out->Option B} (m:Nat) (k:Nat)
  (I:A->List AV) (J:A->Heap) (hk:∀x,(I x).length=k) (hkn:Nat.ble k E.n=true) (hm:∀x,(J x).length=m) (h1:∀U h x,Y U h=some x->WeakL U (I x)/\h=J x)
  (h2:∀o r,dO o=some r->o.h=(enc r).h/\WeakV o.v (enc r).v) (h3:∀x,evF E cs O an fn.results.toList dO (I x) (J x)=S x)
  (Z:∀j fl vs h,YS fl vs h 0 cs j=none)
  (H:∀j fs n vs h y,y∈Qy E cs m O an fn.results.toList dO j fs n vs h->∀x,YS fs.reverse vs h (n+1) cs j=some x->y=some x):
  SoundC E.P GP (Con6.c ⟨f,A,B,Y,S,fun _ r=>enc r⟩):=
 ziy hmx hΓ hgl hst hf hb hn hen m k I J hk hkn hm h1 (fun o r h=>OutW.of (h2 o r h).1 (h2 o r h).2) h3 Z H
end Go.Am
