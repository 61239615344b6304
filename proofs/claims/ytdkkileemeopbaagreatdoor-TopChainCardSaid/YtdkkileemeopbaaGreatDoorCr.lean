/-
  A part of the proof of the laws.
-/
import Derived.Test.YtdkkileemeopbaaGreatDoorAm27
section
namespace Go.Am
open Go Go.RowKit Go.Vc
end Go.Am
end
section
namespace Go.Am
open Go Go.RowKit Go.Vc
def zsb:AO->AO->Bool
 |.cells T l,.cells T' l'=>Nat.beq T T'&&q9 l l'
 |.bytes T l,.bytes T' l'=>Nat.beq T T'&&decide (l=l')
 |.ints T k l,.ints T' k' l'=>Nat.beq T T'&&kEq k k'&&decide (l=l')
 |.strs T l,.strs T' l'=>Nat.beq T T'&&decide (l=l')
 |.vals T z l,.vals T' z' l'=>Nat.beq T T'&&Nat.beq z z'&&q9 l l'
 |.gens T a z n l,.gens T' a' z' n' l'=>(Nat.beq T T'&&Nat.beq z z')&&(((a==a')&&Nat.beq n n')&&q9 l l')
 |.mp l,.mp l'=>q9 (l.map Prod.fst) (l'.map Prod.fst)&&q9 (l.map Prod.snd) (l'.map Prod.snd)
 |_,_=>false
theorem zlk:∀(l l':List (AV×AV)),l.map Prod.fst=l'.map Prod.fst->l.map Prod.snd=l'.map Prod.snd->l=l'
 |[],[],_,_=>rfl
 |(a,b)::r,(a',b')::s,h,k=>by simp only[uAy,List.cons.injEq]at h k;rw[h.1,k.1,zlk r s h.2 k.2]
 |[],_::_,h,_=>by cases h
 |_::_,[],h,_=>by cases h
theorem zsa:∀(a b:AO),zsb a b=true->a=b:=fun a b h=>by
 cases a<;>cases b<;>simp only[zsb,mD,decide_eq_true_eq,beq_iff_eq,nC]at h;any_goals first
  |(rw[mB h.1,yu _ _ h.2])
  |(rw[mB h.1,h.2])
  |(rw[mB h.1.1,zel h.1.2,h.2])
  |(rw[mB h.1.1,mB h.1.2,yu _ _ h.2])
  |(rw[mB h.1.1,mB h.1.2,h.2.1.1,mB h.2.1.2,yu _ _ h.2.2])
  |(rw[zlk _ _ (yu _ _ h.1) (yu _ _ h.2)])
def Yn:Heap->Heap->Bool
 |[],[]=>true
 |none::r,none::s=>Yn r s
 |some a::r,some b::s=>zsb a b&&Yn r s
 |_,_=>false
theorem Y7:∀(a b:Heap),Yn a b=true->a=b
 |[],[],_=>rfl
 |none::r,none::s,h=>by rw[Y7 r s h]
 |some a::r,some b::s,h=>by simp only[Yn,mD]at h;rw[zsa a b h.1,Y7 r s h.2]
 |[],none::_,h=>by cases h
 |[],some _::_,h=>by cases h
 |none::_,[],h=>by cases h
 |some _::_,[],h=>by cases h
 |none::_,some _::_,h=>by cases h
 |some _::_,none::_,h=>by cases h
def zso(h:Heap):Option Out->Option Out
 |some o=>cond (Yn o.h h) (some o) none
 |none=>none
theorem zdb{h:Heap}{x:Option Out}{o:Out}(e:zso h x=some o):x=some o/\o.h=h:=by
 cases x with
 |none=>cases e
 |some p=>
  have e:cond (Yn p.h h) (some p) none=some o:=e;cases hs:Yn p.h h with
  |false=>rw[hs]at e;cases e
  |true=>rw[hs]at e;cases e;exact⟨rfl,Y7 _ _ hs⟩
def zwk(F:FuncId->List AV->Heap->Option Out)(g:FuncId):Con:=Con6.c ⟨g,List AV×Heap,Out,fun a h=>some (a,h),fun x=>F g x.1 x.2,fun _ o=>o⟩
def zwj(F:FuncId->List AV->Heap->Option Out)(g:FuncId):Con:=Con6.c ⟨g,List AV×Heap,Out,fun a h=>some (a,h),fun x=>zso x.2 (F g x.1 x.2),fun _ o=>o⟩
theorem znk(F:FuncId->List AV->Heap->Option Out)(g:FuncId):QuietC (zwj F g):=fun args h x r hd hs=>by have hx:(args,h)=x:=Option.some.inj hd;subst hx;exact (zdb hs).2
end Go.Am
end
section
namespace Go.Am
open Go Go.RowKit Go.Vc
def WD(m:Nat)(st:St):Option St:=
 let lv:=st.s.map Prod.fst
 match zuL m lv st with
 |some (vs,h)=>some ⟨zio lv vs,h⟩
 |none=>none
def Qz{R:Type}(E:Env)(ops:List Oper)(st:St)(k:St->Option R):Option R:=match zeo E ops st some with
 |some s=>k s
 |none=>qe E ops st k
def evR{R:Type}(E:Env)(m q:Nat):Code->St->Cont R->Option R
 |.skip,st,K=>K.normal st
 |.label _,st,K=>K.normal st
 |.ret,st,K=>K.ret st
 |.exit i,st,K=>K.exits i st
 |.region _ ops draw,st,K=>match draw with
  |false=>K3 E ops.toList st K.normal
  |true=>Qz E ops.toList st K.normal
 |.seq a b,st,K=>evR E m q a st ⟨fun st'=>evR E m q b st' K,K.exits,K.ret⟩
 |.cond c a b,st,K=>match opnd E.gl st.s c with
  |.bool x=>cond x (evR E m q a st K) (evR E m q b st K)
  |_=>none
 |.block i a,st,K=>evR E m q a st (yO i K)
 |.scope a,st,K=>evR E m q a st K
 |.loop a,st,K=>yU (fun again st'=>evR E m q a st' ⟨fun st''=>match WD m st'' with
  |some s=>again s
  |none=>none,K.exits,K.ret⟩) q st
 |_,_,_=>none
def zdV(P:Program)(m:Nat)(results:List ResultVar)(st:St):Option Out:=
 match zk1 P st results with
 |some vs=>
  let v:=resV vs;let acc:=reach st.h 1000 (idsV v++zfG (st.h.take m)) (List.range m);let σ:=fun i=>ZE i acc 0
  match zai acc,jL σ v,zeL σ st.h acc with
  |true,some v',some h'=>some ⟨v',h'⟩
  |_,_,_=>none
 |none=>none
def zqs(P:Program)(b:Bool)(m:Nat)(results:List ResultVar)(st:St):Option Out:=cond b (zdV P m results st) (fin P m results st)
section
variable {P : Program} {c : Base} {n : Nat} {R : Ro} {G : List Res} {st : St} {a : Act} {w : World}
theorem zu9(F:Fit c n R G st a w){fn:Func}{o:Out}(h:zdV P c.m fn.results.toList st=some o):
  ∃V G',(results fn a.tmps).run P w=.ok V w/\WRel R G' o.h w/\Since c R G' o.h w/\Rel (look G' o.h) R o.v V:=by
 unfold zdV at h;split at h
 ·rename_i vs hvs;simp only[]at h;generalize hacc:reach st.h 1000 (idsV (resV vs)++zfG (st.h.take c.m)) (List.range c.m)=acc at h;split at h
  ·rename_i v' h' hnd hv hh;cases h;obtain⟨Vs,hrun,hrel⟩:=zec F hvs;obtain⟨rest,e⟩:=yc st.h 1000 (idsV (resV vs)++zfG (st.h.take c.m)) (List.range c.m);rw[hacc]at e;obtain⟨Gv,hW,hSi,hσ⟩:=zaB F (Qc hnd) e hh;refine⟨ziK Vs,Gv,?_,hW,hSi,Wp (fun _ _ h=>h) hσ _ _ _ hv (zo6 hrel)⟩;have h':(fn.results.mapM (resSem a.tmps)).run P w=.ok Vs.toArray w:=by rw[Array.mapM_eq_mapM_toList];simp only[map_eq_pure_bind];rw[Sem.run_bind,hrun];rfl
   rw[ze4,Sem.run_bind,h',Result.andThen_ok]
   match Vs with
   |[]=>rfl
   |[v]=>rfl
   |v::u::r=>rfl
  ·cases h
 ·cases h
theorem zux(F:Fit c n R G st a w){fn:Func}{b:Bool}{o:Out}(h:zqs P b c.m fn.results.toList st=some o):
  ∃V R' G',(results fn a.tmps).run P w=.ok V w/\WRel R' G' o.h w/\Since c R' G' o.h w/\Rel (look G' o.h) R' o.v V:=by
 cases b with
 |true=>obtain⟨V,G',h1,h2,h3,h4⟩:=zu9 F h;exact⟨V,R,G',h1,h2,h3,h4⟩
 |false=>obtain⟨V,R',G',h1,h2,h3,h4,_⟩:=ztc F h;exact⟨V,R',G',h1,h2,h3,h4⟩
end
section
variable {E : Env} {GP : Ro -> Prop} {T : Type} {r : T} {c : Base} {q : Nat}
theorem zsA{R:Ro}{G:List Res}{st st':St}{a:Act}{w:World}{n:Nat}(F:Fit c n R G st a w)(h:WD c.m st=some st'):∃G',Fit c n R G' st' a w:=by
 unfold WD at h;simp only[]at h;split at h
 ·rename_i vs hh hn;cases h;exact zjb F hn
 ·cases h
theorem zl3(hm:E.P.follows .mixedOrders=true)(hΓ:∀C∈E.Γ,SoundC E.P GP C)(hgl:∀R,GP R->GlobOK E.gl R)(hst:Stays GP){ops:List Oper}{k:St->Option T}{Q:Exit->Act->World->Prop}{st:St}{R:Ro}{G:List Res}
  {a:Act} {w:World} (F:Fit c E.n R G st a w) (hGP:GP R) (h:Qz E ops st k=some r) (hK:∀st' R' G' a' w',k st'=some r->Fit c E.n R' G' st' a' w'->GP R'->Q .normal a' w') {id:Nat}:
  (Code.region id ops.toArray true).wp E.P Q a w:=by
 unfold Qz at h;split at h
 ·rename_i s hs;exact zfX hm hΓ hgl hst F hGP hs fun st' R' G' a' w' h1 h2 h3=>by cases h1;exact hK _ R' G' a' w' h h2 h3
 ·exact zfZ hm hΓ hgl hst F hGP h hK
theorem zwP(hmx:E.P.follows .mixedOrders=true)(hΓ:∀C∈E.Γ,SoundC E.P GP C)(hgl:∀R,GP R->GlobOK E.gl R)(hst:Stays GP):
  ∀(code:Code)(K:Cont T)(Q:Exit->Act->World->Prop)(st:St)(R:Ro)(G:List Res)(a:Act)(w:World),
   KOk c E.n GP r K Q->evR E c.m q code st K=some r->Fit c E.n R G st a w->GP R->code.wp E.P Q a w:=by
 intro code;induction code with
 |skip=>intro K Q st R G a w hK h F hGP;exact wp_skip (hK.normal st R G a w h F hGP)
 |label l=>intro K Q st R G a w hK h F hGP;exact wp_label (hK.normal st R G a w h F hGP)
 |ret=>intro K Q st R G a w hK h F hGP;exact wp_ret (hK.ret st R G a w h F hGP)
 |exit i=>intro K Q st R G a w hK h F hGP;exact wp_exit (hK.exits i st R G a w h F hGP)
 |region id ops draw=>
  intro K Q st R G a w hK h F hGP;simp only[evR]at h;split at h
  ·have:=zdo hΓ hgl hst F hGP h (Q:=Q) (fun st' R' G' a' w' h1 h2 h3=>hK.normal st' R' G' a' w' h1 h2 h3) (id:=id);simpa using this
  ·have:=zl3 hmx hΓ hgl hst F hGP h (Q:=Q) (fun st' R' G' a' w' h1 h2 h3=>hK.normal st' R' G' a' w' h1 h2 h3) (id:=id);simpa using this
 |scope body ih=>intro K Q st R G a w hK h F hGP;simp only[evR]at h;exact wp_scope_straight (ih K (Exit.noGoto Q) st R G a w ⟨hK.normal,hK.exits,hK.ret⟩ h F hGP)
 |goto l=>intro K Q st R G a w hK h F hGP;simp only[evR]at h;cases h
 |refuse why=>intro K Q st R G a w hK h F hGP;simp only[evR]at h;cases h
 |rangeFunc f ps asg body ih1 ih2=>intro K Q st R G a w hK h F hGP;simp only[evR]at h;cases h
 |seq x y ihx ihy=>intro K Q st R G a w hK h F hGP;simp only[evR]at h;refine wp_seq ?_;exact ihx ⟨fun st'=>evR E c.m q y st' K,K.exits,K.ret⟩ _ st R G a w ⟨fun st' R' G' a' w' h1 h2 h3=>ihy K Q st' R' G' a' w' hK h1 h2 h3,hK.exits,hK.ret⟩ h F hGP
 |cond b x y ihx ihy=>
  intro K Q st R G a w hK h F hGP;simp only[evR]at h;split at h
  ·rename_i t ht;have hb:=Kw (hgl R hGP) F.slots b;rw[ht]at hb;simp only[Rel]at hb;refine wp_cond hb ?_;cases t
   ·exact ihy K Q st R G a w hK h F hGP
   ·exact ihx K Q st R G a w hK h F hGP
  ·cases h
 |block i x ih=>
  intro K Q st R G a w hK h F hGP;simp only[evR]at h;refine wp_block (ih (yO i K) _ st R G a w ⟨hK.normal,fun j st' R' G' a' w' h1 h2 h3=>?_,hK.ret⟩ h F hGP);simp only[yO]at h1;show(if j=i then Q .normal a' w' else Q (.exit j) a' w');split at h1
  ·rename_i hb;rw[if_pos (qE.1 hb)];exact hK.normal st' R' G' a' w' h1 h2 h3
  ·rename_i hb;rw[if_neg (fun e=>by rw[qE.2 e]at hb;cases hb)];exact hK.exits j st' R' G' a' w' h1 h2 h3
 |loop x ih=>
  intro K Q st R G a w hK h F hGP;simp only[evR]at h;generalize hB:(fun(again:St->Option T) st'=>evR E c.m q x st' ⟨fun st''=>match WD c.m st'' with
   |some s=>again s
   |none=>none,K.exits,K.ret⟩)=B at h
  refine Kc (ι:=Nat) id (fun n a w=>∃st R G,yU B n st=some r/\Fit c E.n R G st a w/\GP R) ?_ q ⟨st,R,G,h,F,hGP⟩;intro n a w ⟨st,R,G,h,F,hGP⟩;cases n with
  |zero=>cases h
  |succ n=>
   have h1:B (yU B n) st=some r:=h;have h':evR E c.m q x st ⟨fun st''=>match WD c.m st'' with
    |some s=>yU B n s
    |none=>none,K.exits,K.ret⟩=some r:=by
    have h2:=congrFun (congrFun hB (yU B n)) st;rw[<-h2]at h1;exact h1
   refine ih ⟨fun st''=>match WD c.m st'' with
    |some s=>yU B n s
    |none=>none,K.exits,K.ret⟩ _ st R G a w ⟨fun st' R' G' a' w' h1 h2 h3=>?_,hK.exits,hK.ret⟩ h' F hGP
   simp only[]at h1;split at h1
   ·rename_i s hs;obtain⟨G2,F2⟩:=zsA h2 hs;exact⟨n,uA2 n,s,R',G2,h1,F2,h3⟩
   ·cases h1
end
structure RunW where
 Γ:FuncId->List Con
 fs:FuncId->List FuncId
 qs:FuncId->List FuncId
 ns:FuncId->Bool
 q:Nat
 ok:∀g f,memN f (qs g)=true->f∉fs g/\∀C∈Γ g,C.f=f->QuietC C
def RunW.all(S:RunW)(g:FuncId)(F:FuncId->List AV->Heap->Option Out):List Con:=S.Γ g++((S.fs g).map (zwk F)++(S.qs g).map (zwj F))
theorem RunW.qok(S:RunW)(g:FuncId)(F:FuncId->List AV->Heap->Option Out):∀f,memN f (S.qs g)=true->∀C∈S.all g F,C.f=f->QuietC C:=fun f hf C hC e=>by
 obtain⟨h1,h2⟩:=S.ok g f hf;rcases mO.1 hC with hC|hC
 ·exact h2 C hC e
 ·rcases mO.1 hC with hC|hC
  ·obtain⟨g',hg,rfl⟩:=uAw.1 hC;exact absurd (show g'∈S.fs g from hg) (by have e:g'=f:=e;rw[e];exact h1)
  ·obtain⟨g',_,rfl⟩:=uAw.1 hC;exact znk F g'
noncomputable def zdP(P:Program)(gl:Glob)(S:RunW):Nat->FuncId->List AV->Heap->Option Out
 |0,_,_,_=>none
 |n+1,f,args,h=>match P.funcs[f]? with
  |some fn=>match fn.body,Yy P f&&Nat.ble args.length fn.ntmps with
   |some code,true=>evR ⟨P,gl,S.all f (zdP P gl S n),0,fn.ntmps,S.qs f,S.qok f (zdP P gl S n)⟩ h.length S.q code ⟨zd4 0 args,h⟩
    ⟨zqs P (S.ns f) h.length fn.results.toList,fun _ _=>none,zqs P (S.ns f) h.length fn.results.toList⟩
   |_,_=>none
  |none=>none
theorem JK{P:Program}{GP:Ro->Prop}{gl:Glob}(b:Bas P GP gl)(S:RunW)(hΓ:∀g,∀C∈S.Γ g,SoundC P GP C):∀n g,SoundC P GP (zwk (zdP P gl S n) g)
 |0,g=>fun _ _ _ _ _ hs=>by cases hs
 |n+1,g=>by
  intro args h x r hd hs;have hx:(args,h)=x:=Option.some.inj hd;subst hx;have hs':zdP P gl S (n+1) g args h=some r:=hs;have quiet:∀g,SoundC P GP (zwj (zdP P gl S n) g):=fun g args h x r hd hs=>by obtain⟨e1,_⟩:=zdb hs;exact JK b S hΓ n g args h x r hd e1
  unfold zdP at hs';split at hs'
  ·rename_i fn hf;split at hs'
   ·rename_i code hb hen;obtain⟨h1,h2⟩:=Bool.and_eq_true_iff.1 hen;refine⟨jq h1,fun R G w vs hGP W hargs=>?_⟩;have hlen:vs.length=args.length:=hargs.length.symm;have hkn':=mS h2;refine calls_of_wp hf hb ?_;let c:Base:=⟨R,look G h,fpsAll G h,w,h.length⟩
    let a0:Act:={tmps:=vs.toArray++Array.replicate (fn.ntmps-vs.toArray.size) undef,defers:=[]}
    have F0:Fit c fn.ntmps R G ⟨zd4 0 args,h⟩ a0 w:=by
     refine⟨W,⟨Keeps.refl _ _,fun _ _ h=>h,fun b h=>.inl h,fun i r b hi hr hb=>.inl (jV.2 ⟨i,r,hi,hr,hb⟩),fun _ _ _=>rfl,mG _⟩,zgt hargs fun p v hp=>?_,rfl,?_⟩
     ·have hlt:=(mF.1 hp).1;rw[uAE];show(vs.toArray++Array.replicate (fn.ntmps-vs.toArray.size) undef).getD p undef=v;have h4:=(mF.1 hp).2;simp[Array.getElem?_append,hlt];exact h4
     ·show(vs.toArray++Array.replicate (fn.ntmps-vs.toArray.size) undef).size=fn.ntmps;simp;omega
    have ret:∀st R' G'(a:Act) w',zqs P (S.ns g) c.m fn.results.toList st=some r->Fit c fn.ntmps R' G' st a w'->GP R'->a.defers=[]/\∃v,(results fn a.tmps).run P w'=.ok v w'/\
      (∃V R' G',Ending.returned v=.returned V/\WRel R' G' r.h w'/\Since c R' G' r.h w'/\Rel (look G' r.h) R' r.v V):=by
     intro st R' G' a w' h F _;obtain⟨V,R2,G2,g1,g2,g3,g4⟩:=zux F h;exact⟨F.defers,V,g1,V,R2,G2,rfl,g2,g3,g4⟩
    refine zwP (E:=⟨P,gl,S.all g (zdP P gl S n),0,fn.ntmps,S.qs g,S.qok g (zdP P gl S n)⟩) (c:=c) b.hmx (fun C hC=>?_) b.hgl b.hst code
     ⟨zqs P (S.ns g) c.m fn.results.toList,fun _ _=>none,zqs P (S.ns g) c.m fn.results.toList⟩ _ _ R G a0 w
     ⟨fun st R' G' a w' h F hG=>ret st R' G' a w' h F hG,(fun i st R' G' a w' h _ _=>by cases h),fun st R' G' a w' h F hG=>ret st R' G' a w' h F hG⟩ hs' F0 hGP
    rcases mO.1 hC with hC|hC
    ·exact hΓ g C hC
    ·rcases mO.1 hC with hC|hC
     ·obtain⟨q,_,rfl⟩:=uAw.1 hC;exact JK b S hΓ n q
     ·obtain⟨q,_,rfl⟩:=uAw.1 hC;exact quiet q
   ·cases hs'
  ·cases hs'
end Go.Am
end
