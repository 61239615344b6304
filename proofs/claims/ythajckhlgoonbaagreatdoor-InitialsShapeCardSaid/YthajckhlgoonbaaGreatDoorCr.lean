/-
  A part of the proof of the laws.
-/
import Derived.Test.YthajckhlgoonbaaGreatDoorAm27
section
namespace Go.Am
open Go Go.RowKit Go.Vc
end Go.Am
end
section
namespace Go.Am
open Go Go.RowKit Go.Vc
def zrN:AO->AO->Bool
 |.cells T l,.cells T' l'=>Nat.beq T T'&&Zg l l'
 |.bytes T l,.bytes T' l'=>Nat.beq T T'&&decide (l=l')
 |.ints T k l,.ints T' k' l'=>Nat.beq T T'&&kEq k k'&&decide (l=l')
 |.strs T l,.strs T' l'=>Nat.beq T T'&&decide (l=l')
 |.vals T z l,.vals T' z' l'=>Nat.beq T T'&&Nat.beq z z'&&Zg l l'
 |.gens T a z n l,.gens T' a' z' n' l'=>(Nat.beq T T'&&Nat.beq z z')&&(((a==a')&&Nat.beq n n')&&Zg l l')
 |.mp l,.mp l'=>Zg (l.map Prod.fst) (l'.map Prod.fst)&&Zg (l.map Prod.snd) (l'.map Prod.snd)
 |_,_=>false
theorem zk5:∀(l l':List (AV×AV)),l.map Prod.fst=l'.map Prod.fst->l.map Prod.snd=l'.map Prod.snd->l=l'
 |[],[],_,_=>rfl
 |(a,b)::r,(a',b')::s,h,k=>by simp only[uAP,List.cons.injEq]at h k;rw[h.1,k.1,zk5 r s h.2 k.2]
 |[],_::_,h,_=>by cases h
 |_::_,[],h,_=>by cases h
theorem zrM:∀(a b:AO),zrN a b=true->a=b:=fun a b h=>by
 cases a<;>cases b<;>simp only[zrN,mY,decide_eq_true_eq,beq_iff_eq,nW]at h;any_goals first
  |(rw[mV h.1,yv _ _ h.2])
  |(rw[mV h.1,h.2])
  |(rw[mV h.1.1,zef h.1.2,h.2])
  |(rw[mV h.1.1,mV h.1.2,yv _ _ h.2])
  |(rw[mV h.1.1,mV h.1.2,h.2.1.1,mV h.2.1.2,yv _ _ h.2.2])
  |(rw[zk5 _ _ (yv _ _ h.1) (yv _ _ h.2)])
def Yk:Heap->Heap->Bool
 |[],[]=>true
 |none::r,none::s=>Yk r s
 |some a::r,some b::s=>zrN a b&&Yk r s
 |_,_=>false
theorem Y8:∀(a b:Heap),Yk a b=true->a=b
 |[],[],_=>rfl
 |none::r,none::s,h=>by rw[Y8 r s h]
 |some a::r,some b::s,h=>by simp only[Yk,mY]at h;rw[zrM a b h.1,Y8 r s h.2]
 |[],none::_,h=>by cases h
 |[],some _::_,h=>by cases h
 |none::_,[],h=>by cases h
 |some _::_,[],h=>by cases h
 |none::_,some _::_,h=>by cases h
 |some _::_,none::_,h=>by cases h
def zr0(h:Heap):Option Out->Option Out
 |some o=>cond (Yk o.h h) (some o) none
 |none=>none
theorem zcS{h:Heap}{x:Option Out}{o:Out}(e:zr0 h x=some o):x=some o/\o.h=h:=by
 cases x with
 |none=>cases e
 |some p=>
  have e:cond (Yk p.h h) (some p) none=some o:=e;cases hs:Yk p.h h with
  |false=>rw[hs]at e;cases e
  |true=>rw[hs]at e;cases e;exact⟨rfl,Y8 _ _ hs⟩
def zxz(F:FuncId->List AV->Heap->Option Out)(g:FuncId):Con:=Con6.c ⟨g,List AV×Heap,Out,fun a h=>some (a,h),fun x=>F g x.1 x.2,fun _ o=>o⟩
def zwv(F:FuncId->List AV->Heap->Option Out)(g:FuncId):Con:=Con6.c ⟨g,List AV×Heap,Out,fun a h=>some (a,h),fun x=>zr0 x.2 (F g x.1 x.2),fun _ o=>o⟩
theorem znc(F:FuncId->List AV->Heap->Option Out)(g:FuncId):QuietC (zwv F g):=fun args h x r hd hs=>by have hx:(args,h)=x:=Option.some.inj hd;subst hx;exact (zcS hs).2
end Go.Am
end
section
namespace Go.Am
open Go Go.RowKit Go.Vc
def zhy(m:Nat)(st:St):Option St:=
 let lv:=st.s.map Prod.fst
 match zu3 m lv st with
 |some (vs,h)=>some ⟨zie lv vs,h⟩
 |none=>none
def zfO{R:Type}(E:Env)(ops:List Oper)(st:St)(k:St->Option R):Option R:=match zeh E ops st some with
 |some s=>k s
 |none=>Jl E ops st k
def evR{R:Type}(E:Env)(m q:Nat):Code->St->Cont R->Option R
 |.skip,st,K=>K.normal st
 |.label _,st,K=>K.normal st
 |.ret,st,K=>K.ret st
 |.exit i,st,K=>K.exits i st
 |.region _ ops draw,st,K=>match draw with
  |false=>zfM E ops.toList st K.normal
  |true=>zfO E ops.toList st K.normal
 |.seq a b,st,K=>evR E m q a st ⟨fun st'=>evR E m q b st' K,K.exits,K.ret⟩
 |.cond c a b,st,K=>match opnd E.gl st.s c with
  |.bool x=>cond x (evR E m q a st K) (evR E m q b st K)
  |_=>none
 |.block i a,st,K=>evR E m q a st (Xl i K)
 |.scope a,st,K=>evR E m q a st K
 |.loop a,st,K=>Z2 (fun again st'=>evR E m q a st' ⟨fun st''=>match zhy m st'' with
  |some s=>again s
  |none=>none,K.exits,K.ret⟩) q st
 |_,_,_=>none
def zw9(P:Program)(m:Nat)(results:List ResultVar)(st:St):Option Out:=
 match zkQ P st results with
 |some vs=>
  let v:=resV vs;let acc:=reach st.h 1000 (idsV v++zfz (st.h.take m)) (List.range m);let σ:=fun i=>ZO i acc 0
  match W6 acc,jP σ v,zeC σ st.h acc with
  |true,some v',some h'=>some ⟨v',h'⟩
  |_,_,_=>none
 |none=>none
def zp5(P:Program)(b:Bool)(m:Nat)(results:List ResultVar)(st:St):Option Out:=cond b (zw9 P m results st) (fin P m results st)
section
variable {P : Program} {c : Base} {n : Nat} {R : Ro} {G : List Res} {st : St} {a : Act} {w : World}
theorem zvs(F:Fit c n R G st a w){fn:Func}{o:Out}(h:zw9 P c.m fn.results.toList st=some o):
  ∃V G',(results fn a.tmps).run P w=.ok V w/\WRel R G' o.h w/\Since c R G' o.h w/\Rel (look G' o.h) R o.v V:=by
 unfold zw9 at h;split at h
 ·rename_i vs hvs;simp only[]at h;generalize hacc:reach st.h 1000 (idsV (resV vs)++zfz (st.h.take c.m)) (List.range c.m)=acc at h;split at h
  ·rename_i v' h' hnd hv hh;cases h;obtain⟨Vs,hrun,hrel⟩:=zdK F hvs;obtain⟨rest,e⟩:=j8 st.h 1000 (idsV (resV vs)++zfz (st.h.take c.m)) (List.range c.m);rw[hacc]at e;obtain⟨Gv,hW,hSi,hσ⟩:=zan F (Qc hnd) e hh;refine⟨ziA Vs,Gv,?_,hW,hSi,Wn (fun _ _ h=>h) hσ _ _ _ hv (zo3 hrel)⟩;have h':(fn.results.mapM (resSem a.tmps)).run P w=.ok Vs.toArray w:=by rw[Array.mapM_eq_mapM_toList];simp only[map_eq_pure_bind];rw[Sem.run_bind,hrun];rfl
   rw[zeX,Sem.run_bind,h',Result.andThen_ok]
   match Vs with
   |[]=>rfl
   |[v]=>rfl
   |v::u::r=>rfl
  ·cases h
 ·cases h
theorem zuR(F:Fit c n R G st a w){fn:Func}{b:Bool}{o:Out}(h:zp5 P b c.m fn.results.toList st=some o):
  ∃V R' G',(results fn a.tmps).run P w=.ok V w/\WRel R' G' o.h w/\Since c R' G' o.h w/\Rel (look G' o.h) R' o.v V:=by
 cases b with
 |true=>obtain⟨V,G',h1,h2,h3,h4⟩:=zvs F h;exact⟨V,R,G',h1,h2,h3,h4⟩
 |false=>obtain⟨V,R',G',h1,h2,h3,h4,_⟩:=zsU F h;exact⟨V,R',G',h1,h2,h3,h4⟩
end
section
variable {E : Env} {GP : Ro -> Prop} {T : Type} {r : T} {c : Base} {q : Nat}
theorem zsg{R:Ro}{G:List Res}{st st':St}{a:Act}{w:World}{n:Nat}(F:Fit c n R G st a w)(h:zhy c.m st=some st'):∃G',Fit c n R G' st' a w:=by
 unfold zhy at h;simp only[]at h;split at h
 ·rename_i vs hh hn;cases h;exact ziY F hn
 ·cases h
theorem zlT(hm:E.P.follows .mixedOrders=true)(hΓ:∀C∈E.Γ,SoundC E.P GP C)(hgl:∀R,GP R->GlobOK E.gl R)(hst:Stays GP){ops:List Oper}{k:St->Option T}{Q:Exit->Act->World->Prop}{st:St}{R:Ro}{G:List Res}
  {a:Act} {w:World} (F:Fit c E.n R G st a w) (hGP:GP R) (h:zfO E ops st k=some r) (hK:∀st' R' G' a' w',k st'=some r->Fit c E.n R' G' st' a' w'->GP R'->Q .normal a' w') {id:Nat}:
  (Code.region id ops.toArray true).wp E.P Q a w:=by
 unfold zfO at h;split at h
 ·rename_i s hs;exact zfN hm hΓ hgl hst F hGP hs fun st' R' G' a' w' h1 h2 h3=>by cases h1;exact hK _ R' G' a' w' h h2 h3
 ·exact zfQ hm hΓ hgl hst F hGP h hK
theorem zxa(hmx:E.P.follows .mixedOrders=true)(hΓ:∀C∈E.Γ,SoundC E.P GP C)(hgl:∀R,GP R->GlobOK E.gl R)(hst:Stays GP):
  ∀(code:Code)(K:Cont T)(Q:Exit->Act->World->Prop)(st:St)(R:Ro)(G:List Res)(a:Act)(w:World),
   KOk c E.n GP r K Q->evR E c.m q code st K=some r->Fit c E.n R G st a w->GP R->code.wp E.P Q a w:=by
 intro code;induction code with
 |skip=>intro K Q st R G a w hK h F hGP;exact wp_skip (hK.normal st R G a w h F hGP)
 |label l=>intro K Q st R G a w hK h F hGP;exact wp_label (hK.normal st R G a w h F hGP)
 |ret=>intro K Q st R G a w hK h F hGP;exact wp_ret (hK.ret st R G a w h F hGP)
 |exit i=>intro K Q st R G a w hK h F hGP;exact wp_exit (hK.exits i st R G a w h F hGP)
 |region id ops draw=>
  intro K Q st R G a w hK h F hGP;simp only[evR]at h;split at h
  ·have:=zc2 hΓ hgl hst F hGP h (Q:=Q) (fun st' R' G' a' w' h1 h2 h3=>hK.normal st' R' G' a' w' h1 h2 h3) (id:=id);simpa using this
  ·have:=zlT hmx hΓ hgl hst F hGP h (Q:=Q) (fun st' R' G' a' w' h1 h2 h3=>hK.normal st' R' G' a' w' h1 h2 h3) (id:=id);simpa using this
 |scope body ih=>intro K Q st R G a w hK h F hGP;simp only[evR]at h;exact wp_scope_straight (ih K (Exit.noGoto Q) st R G a w ⟨hK.normal,hK.exits,hK.ret⟩ h F hGP)
 |goto l=>intro K Q st R G a w hK h F hGP;simp only[evR]at h;cases h
 |refuse why=>intro K Q st R G a w hK h F hGP;simp only[evR]at h;cases h
 |rangeFunc f ps asg body ih1 ih2=>intro K Q st R G a w hK h F hGP;simp only[evR]at h;cases h
 |seq x y ihx ihy=>intro K Q st R G a w hK h F hGP;simp only[evR]at h;refine wp_seq ?_;exact ihx ⟨fun st'=>evR E c.m q y st' K,K.exits,K.ret⟩ _ st R G a w ⟨fun st' R' G' a' w' h1 h2 h3=>ihy K Q st' R' G' a' w' hK h1 h2 h3,hK.exits,hK.ret⟩ h F hGP
 |cond b x y ihx ihy=>
  intro K Q st R G a w hK h F hGP;simp only[evR]at h;split at h
  ·rename_i t ht;have hb:=KB (hgl R hGP) F.slots b;rw[ht]at hb;simp only[Rel]at hb;refine wp_cond hb ?_;cases t
   ·exact ihy K Q st R G a w hK h F hGP
   ·exact ihx K Q st R G a w hK h F hGP
  ·cases h
 |block i x ih=>
  intro K Q st R G a w hK h F hGP;simp only[evR]at h;refine wp_block (ih (Xl i K) _ st R G a w ⟨hK.normal,fun j st' R' G' a' w' h1 h2 h3=>?_,hK.ret⟩ h F hGP);simp only[Xl]at h1;show(if j=i then Q .normal a' w' else Q (.exit j) a' w');split at h1
  ·rename_i hb;rw[if_pos (qI.1 hb)];exact hK.normal st' R' G' a' w' h1 h2 h3
  ·rename_i hb;rw[if_neg (fun e=>by rw[qI.2 e]at hb;cases hb)];exact hK.exits j st' R' G' a' w' h1 h2 h3
 |loop x ih=>
  intro K Q st R G a w hK h F hGP;simp only[evR]at h;generalize hB:(fun(again:St->Option T) st'=>evR E c.m q x st' ⟨fun st''=>match zhy c.m st'' with
   |some s=>again s
   |none=>none,K.exits,K.ret⟩)=B at h
  refine Kg (ι:=Nat) id (fun n a w=>∃st R G,Z2 B n st=some r/\Fit c E.n R G st a w/\GP R) ?_ q ⟨st,R,G,h,F,hGP⟩;intro n a w ⟨st,R,G,h,F,hGP⟩;cases n with
  |zero=>cases h
  |succ n=>
   have h1:B (Z2 B n) st=some r:=h;have h':evR E c.m q x st ⟨fun st''=>match zhy c.m st'' with
    |some s=>Z2 B n s
    |none=>none,K.exits,K.ret⟩=some r:=by
    have h2:=congrFun (congrFun hB (Z2 B n)) st;rw[<-h2]at h1;exact h1
   refine ih ⟨fun st''=>match zhy c.m st'' with
    |some s=>Z2 B n s
    |none=>none,K.exits,K.ret⟩ _ st R G a w ⟨fun st' R' G' a' w' h1 h2 h3=>?_,hK.exits,hK.ret⟩ h' F hGP
   simp only[]at h1;split at h1
   ·rename_i s hs;obtain⟨G2,F2⟩:=zsg h2 hs;exact⟨n,uBk n,s,R',G2,h1,F2,h3⟩
   ·cases h1
end
structure RunW where
 Γ:FuncId->List Con
 fs:FuncId->List FuncId
 qs:FuncId->List FuncId
 ns:FuncId->Bool
 q:Nat
 ok:∀g f,memN f (qs g)=true->f∉fs g/\∀C∈Γ g,C.f=f->QuietC C
def RunW.all(S:RunW)(g:FuncId)(F:FuncId->List AV->Heap->Option Out):List Con:=S.Γ g++((S.fs g).map (zxz F)++(S.qs g).map (zwv F))
theorem RunW.qok(S:RunW)(g:FuncId)(F:FuncId->List AV->Heap->Option Out):∀f,memN f (S.qs g)=true->∀C∈S.all g F,C.f=f->QuietC C:=fun f hf C hC e=>by
 obtain⟨h1,h2⟩:=S.ok g f hf;rcases nJ.1 hC with hC|hC
 ·exact h2 C hC e
 ·rcases nJ.1 hC with hC|hC
  ·obtain⟨g',hg,rfl⟩:=uAF.1 hC;exact absurd (show g'∈S.fs g from hg) (by have e:g'=f:=e;rw[e];exact h1)
  ·obtain⟨g',_,rfl⟩:=uAF.1 hC;exact znc F g'
noncomputable def zgI(P:Program)(gl:Glob)(S:RunW):Nat->FuncId->List AV->Heap->Option Out
 |0,_,_,_=>none
 |n+1,f,args,h=>match P.funcs[f]? with
  |some fn=>match fn.body,Wd P f&&Nat.ble args.length fn.ntmps with
   |some code,true=>evR ⟨P,gl,S.all f (zgI P gl S n),0,fn.ntmps,S.qs f,S.qok f (zgI P gl S n)⟩ h.length S.q code ⟨zmv 0 args,h⟩
    ⟨zp5 P (S.ns f) h.length fn.results.toList,fun _ _=>none,zp5 P (S.ns f) h.length fn.results.toList⟩
   |_,_=>none
  |none=>none
theorem WW{P:Program}{GP:Ro->Prop}{gl:Glob}(b:Bas P GP gl)(S:RunW)(hΓ:∀g,∀C∈S.Γ g,SoundC P GP C):∀n g,SoundC P GP (zxz (zgI P gl S n) g)
 |0,g=>fun _ _ _ _ _ hs=>by cases hs
 |n+1,g=>by
  intro args h x r hd hs;have hx:(args,h)=x:=Option.some.inj hd;subst hx;have hs':zgI P gl S (n+1) g args h=some r:=hs;have quiet:∀g,SoundC P GP (zwv (zgI P gl S n) g):=fun g args h x r hd hs=>by obtain⟨e1,_⟩:=zcS hs;exact WW b S hΓ n g args h x r hd e1
  unfold zgI at hs';split at hs'
  ·rename_i fn hf;split at hs'
   ·rename_i code hb hen;obtain⟨h1,h2⟩:=Bool.and_eq_true_iff.1 hen;refine⟨jM h1,fun R G w vs hGP W hargs=>?_⟩;have hlen:vs.length=args.length:=hargs.length.symm;have hkn':=nN h2;refine calls_of_wp hf hb ?_;let c:Base:=⟨R,look G h,fpsAll G h,w,h.length⟩
    let a0:Act:={tmps:=vs.toArray++Array.replicate (fn.ntmps-vs.toArray.size) undef,defers:=[]}
    have F0:Fit c fn.ntmps R G ⟨zmv 0 args,h⟩ a0 w:=by
     refine⟨W,⟨Keeps.refl _ _,fun _ _ h=>h,fun b h=>.inl h,fun i r b hi hr hb=>.inl (ya.2 ⟨i,r,hi,hr,hb⟩),fun _ _ _=>rfl,nB _⟩,zgj hargs fun p v hp=>?_,rfl,?_⟩
     ·have hlt:=(mX.1 hp).1;rw[uAU];show(vs.toArray++Array.replicate (fn.ntmps-vs.toArray.size) undef).getD p undef=v;have h4:=(mX.1 hp).2;simp[Array.getElem?_append,hlt];exact h4
     ·show(vs.toArray++Array.replicate (fn.ntmps-vs.toArray.size) undef).size=fn.ntmps;simp;omega
    have ret:∀st R' G'(a:Act) w',zp5 P (S.ns g) c.m fn.results.toList st=some r->Fit c fn.ntmps R' G' st a w'->GP R'->a.defers=[]/\∃v,(results fn a.tmps).run P w'=.ok v w'/\
      (∃V R' G',Ending.returned v=.returned V/\WRel R' G' r.h w'/\Since c R' G' r.h w'/\Rel (look G' r.h) R' r.v V):=by
     intro st R' G' a w' h F _;obtain⟨V,R2,G2,g1,g2,g3,g4⟩:=zuR F h;exact⟨F.defers,V,g1,V,R2,G2,rfl,g2,g3,g4⟩
    refine zxa (E:=⟨P,gl,S.all g (zgI P gl S n),0,fn.ntmps,S.qs g,S.qok g (zgI P gl S n)⟩) (c:=c) b.hmx (fun C hC=>?_) b.hgl b.hst code
     ⟨zp5 P (S.ns g) c.m fn.results.toList,fun _ _=>none,zp5 P (S.ns g) c.m fn.results.toList⟩ _ _ R G a0 w
     ⟨fun st R' G' a w' h F hG=>ret st R' G' a w' h F hG,(fun i st R' G' a w' h _ _=>by cases h),fun st R' G' a w' h F hG=>ret st R' G' a w' h F hG⟩ hs' F0 hGP
    rcases nJ.1 hC with hC|hC
    ·exact hΓ g C hC
    ·rcases nJ.1 hC with hC|hC
     ·obtain⟨q,_,rfl⟩:=uAF.1 hC;exact WW b S hΓ n q
     ·obtain⟨q,_,rfl⟩:=uAF.1 hC;exact quiet q
   ·cases hs'
  ·cases hs'
end Go.Am
end
