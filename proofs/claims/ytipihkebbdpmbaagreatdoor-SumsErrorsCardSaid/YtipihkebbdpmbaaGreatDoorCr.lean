/-
  A part of the proof of the laws.
-/
import Derived.Test.YtipihkebbdpmbaaGreatDoorAm27
section
namespace Go.Am
open Go Go.RowKit Go.Vc
end Go.Am
end
section
namespace Go.Am
open Go Go.RowKit Go.Vc
mutual
def zrD:AV→AV→Bool
 |.undef,.undef=>true
 |.int k n,.int k' n'=>kEq k k'&&decide (n=n')
 |.bool b,.bool b'=>b==b'
 |.str l,.str l'=>decide (l=l')
 |.nilp,.nilp=>true
 |.nilf,.nilf=>true
 |.nili,.nili=>true
 |.nilm,.nilm=>true
 |.nils,.nils=>true
 |.ptr i o,.ptr i' o'=>Nat.beq i i'&&Nat.beq o o'
 |.rp v,.rp v'=>zrD v v'
 |.rw i,.rw i'=>Nat.beq i i'
 |.rwp i,.rwp i'=>Nat.beq i i'
 |.rwf i,.rwf i'=>Nat.beq i i'
 |.rwc i z a b,.rwc i' z' a' b'=>(Nat.beq i i'&&Nat.beq z z')&&(decide (a=a')&&decide (b=b'))
 |.rob f l,.rob f' l'=>(f==f')&&decide (l=l')
 |.roi f k l,.roi f' k' l'=>(f==f')&&kEq k k'&&decide (l=l')
 |.ros f l,.ros f' l'=>(f==f')&&decide (l=l')
 |.rov f z l,.rov f' z' l'=>(f==f')&&Nat.beq z z'&&qU l l'
 |.fn f a c,.fn f' a' c'=>Nat.beq f f'&&qU a a'&&qU c c'
 |.agg l,.agg l'=>qU l l'
 |.tup l,.tup l'=>qU l l'
 |.map i,.map i'=>Nat.beq i i'
 |_,_=>false
def qU:List AV→List AV→Bool
 |[],[]=>true
 |a::r,b::s=>zrD a b&&qU r s
 |_,_=>false
end
theorem zlX{a b:IntKind}(h:kEq a b=true):a=b:=by cases a<;>cases b<;>first|rfl|cases h
mutual
theorem zng:∀(a b:AV),zrD a b=true→a=b
 |a,b,h=>by
  cases a<;>cases b<;>simp only[zrD,Bool.and_eq_true,decide_eq_true_eq,beq_iff_eq,Bool.false_eq_true]at h;any_goals first
   |rfl
   |(subst h;rfl)
   |(rw[zlX h.1,h.2])
   |(rw[Nat.eq_of_beq_eq_true h])
   |(rw[Nat.eq_of_beq_eq_true h.1,Nat.eq_of_beq_eq_true h.2])
   |(rw[h.1,h.2])
   |(rw[h.1.1,zlX h.1.2,h.2])
   |(rw[zng _ _ h])
   |(rw[h.1.1,Nat.eq_of_beq_eq_true h.1.2,yp _ _ h.2])
   |(rw[Nat.eq_of_beq_eq_true h.1.1,Nat.eq_of_beq_eq_true h.1.2,h.2.1,h.2.2])
   |(rw[Nat.eq_of_beq_eq_true h.1.1,yp _ _ h.1.2,yp _ _ h.2])
   |(rw[yp _ _ h])
theorem yp:∀(a b:List AV),qU a b=true→a=b
 |[],[],_=>rfl
 |a::r,b::s,h=>by simp only[qU,Bool.and_eq_true]at h;rw[zng a b h.1,yp r s h.2]
 |[],_::_,h=>by cases h
 |_::_,[],h=>by cases h
end
def zwa:AO→AO→Bool
 |.cells T l,.cells T' l'=>Nat.beq T T'&&qU l l'
 |.bytes T l,.bytes T' l'=>Nat.beq T T'&&decide (l=l')
 |.ints T k l,.ints T' k' l'=>Nat.beq T T'&&kEq k k'&&decide (l=l')
 |.strs T l,.strs T' l'=>Nat.beq T T'&&decide (l=l')
 |.vals T z l,.vals T' z' l'=>Nat.beq T T'&&Nat.beq z z'&&qU l l'
 |.gens T a z n l,.gens T' a' z' n' l'=>(Nat.beq T T'&&Nat.beq z z')&&(((a==a')&&Nat.beq n n')&&qU l l')
 |.mp l,.mp l'=>qU (l.map Prod.fst) (l'.map Prod.fst)&&qU (l.map Prod.snd) (l'.map Prod.snd)
 |_,_=>false
theorem znD:∀(l l':List (AV×AV)),l.map Prod.fst=l'.map Prod.fst→l.map Prod.snd=l'.map Prod.snd→l=l'
 |[],[],_,_=>rfl
 |(a,b)::r,(a',b')::s,h,k=>by simp only[List.map_cons,List.cons.injEq]at h k;rw[h.1,k.1,znD r s h.2 k.2]
 |[],_::_,h,_=>by cases h
 |_::_,[],h,_=>by cases h
theorem zv9:∀(a b:AO),zwa a b=true→a=b:=fun a b h=>by
 cases a<;>cases b<;>simp only[zwa,Bool.and_eq_true,decide_eq_true_eq,beq_iff_eq,Bool.false_eq_true]at h;any_goals first
  |(rw[Nat.eq_of_beq_eq_true h.1,yp _ _ h.2])
  |(rw[Nat.eq_of_beq_eq_true h.1,h.2])
  |(rw[Nat.eq_of_beq_eq_true h.1.1,zlX h.1.2,h.2])
  |(rw[Nat.eq_of_beq_eq_true h.1.1,Nat.eq_of_beq_eq_true h.1.2,yp _ _ h.2])
  |(rw[Nat.eq_of_beq_eq_true h.1.1,Nat.eq_of_beq_eq_true h.1.2,h.2.1.1,Nat.eq_of_beq_eq_true h.2.1.2,yp _ _ h.2.2])
  |(rw[znD _ _ (yp _ _ h.1) (yp _ _ h.2)])
def Yk:Heap→Heap→Bool
 |[],[]=>true
 |none::r,none::s=>Yk r s
 |some a::r,some b::s=>zwa a b&&Yk r s
 |_,_=>false
theorem Y7:∀(a b:Heap),Yk a b=true→a=b
 |[],[],_=>rfl
 |none::r,none::s,h=>by rw[Y7 r s h]
 |some a::r,some b::s,h=>by simp only[Yk,Bool.and_eq_true]at h;rw[zv9 a b h.1,Y7 r s h.2]
 |[],none::_,h=>by cases h
 |[],some _::_,h=>by cases h
 |none::_,[],h=>by cases h
 |some _::_,[],h=>by cases h
 |none::_,some _::_,h=>by cases h
 |some _::_,none::_,h=>by cases h
def zxw(h:Heap):Option Out→Option Out
 |some o=>cond (Yk o.h h) (some o) none
 |none=>none
theorem zdK{h:Heap}{x:Option Out}{o:Out}(e:zxw h x=some o):x=some o∧o.h=h:=by
 cases x with
 |none=>cases e
 |some p=>
  have e:cond (Yk p.h h) (some p) none=some o:=e;cases hs:Yk p.h h with
  |false=>rw[hs]at e;cases e
  |true=>rw[hs]at e;cases e;exact⟨rfl,Y7 _ _ hs⟩
def zEq(F:FuncId→List AV→Heap→Option Out)(g:FuncId):Con:=Con6.c ⟨g,List AV×Heap,Out,fun a h=>some (a,h),fun x=>F g x.1 x.2,fun _ o=>o⟩
def zEp(F:FuncId→List AV→Heap→Option Out)(g:FuncId):Con:=Con6.c ⟨g,List AV×Heap,Out,fun a h=>some (a,h),fun x=>zxw x.2 (F g x.1 x.2),fun _ o=>o⟩
theorem zpx(F:FuncId→List AV→Heap→Option Out)(g:FuncId):QuietC (zEp F g):=fun args h x r hd hs=>by have hx:(args,h)=x:=Option.some.inj hd;subst hx;exact (zdK hs).2
end Go.Am
end
section
namespace Go.Am
open Go Go.RowKit Go.Vc
def zjl(m:Nat)(st:St):Option St:=
 let lv:=st.s.map Prod.fst
 match zCU m lv st with
 |some (vs,h)=>some ⟨zjT lv vs,h⟩
 |none=>none
def evR{R:Type}(E:Env)(m q:Nat):Code→St→Cont R→Option R
 |.skip,st,K=>K.normal st
 |.label _,st,K=>K.normal st
 |.ret,st,K=>K.ret st
 |.exit i,st,K=>K.exits i st
 |.region _ ops draw,st,K=>match draw with
  |false=>zhL E ops.toList st K.normal
  |true=>zgd E ops.toList st K.normal
 |.seq a b,st,K=>evR E m q a st ⟨fun st'=>evR E m q b st' K,K.exits,K.ret⟩
 |.cond c a b,st,K=>match opnd E.gl st.s c with
  |.bool x=>cond x (evR E m q a st K) (evR E m q b st K)
  |_=>none
 |.block i a,st,K=>evR E m q a st (Xh i K)
 |.scope a,st,K=>evR E m q a st K
 |.loop a,st,K=>Za (fun again st'=>evR E m q a st' ⟨fun st''=>match zjl m st'' with
  |some s=>again s
  |none=>none,K.exits,K.ret⟩) q st
 |_,_,_=>none
def zEX(P:Program)(m:Nat)(results:List ResultVar)(st:St):Option Out:=
 match znn P st results with
 |some vs=>
  let v:=resV vs;let acc:=reach st.h 1000 (idsV v++zhx (st.h.take m)) (List.range m);let σ:=fun i=>ZI i acc 0
  match WV acc,jO σ v,zgx σ st.h acc with
  |true,some v',some h'=>some ⟨v',h'⟩
  |_,_,_=>none
 |none=>none
def ztt(P:Program)(b:Bool)(m:Nat)(results:List ResultVar)(st:St):Option Out:=cond b (zEX P m results st) (fin P m results st)
section
variable {P : Program} {c : Base} {n : Nat} {R : Ro} {G : List Res} {st : St} {a : Act} {w : World}
theorem zDk(F:Fit c n R G st a w){fn:Func}{o:Out}(h:zEX P c.m fn.results.toList st=some o):
  ∃V G',(results fn a.tmps).run P w=.ok V w∧WRel R G' o.h w∧Since c R G' o.h w∧Rel (look G' o.h) R o.v V:=by
 unfold zEX at h;split at h
 ·rename_i vs hvs;simp only[]at h;generalize hacc:reach st.h 1000 (idsV (resV vs)++zhx (st.h.take c.m)) (List.range c.m)=acc at h;split at h
  ·rename_i v' h' hnd hv hh;cases h;obtain⟨Vs,hrun,hrel⟩:=zeA F hvs;obtain⟨rest,e⟩:=j9 st.h 1000 (idsV (resV vs)++zhx (st.h.take c.m)) (List.range c.m);rw[hacc]at e;obtain⟨Gv,hW,hSi,hσ⟩:=zae F (Qc hnd) e hh;refine⟨zkc Vs,Gv,?_,hW,hSi,Wi (fun _ _ h=>h) hσ _ _ _ hv (zrE hrel)⟩;have h':(fn.results.mapM (resSem a.tmps)).run P w=.ok Vs.toArray w:=by rw[Array.mapM_eq_mapM_toList];simp only[map_eq_pure_bind];rw[Sem.run_bind,hrun];rfl
   rw[zgO,Sem.run_bind,h',Result.andThen_ok]
   match Vs with
   |[]=>rfl
   |[v]=>rfl
   |v::u::r=>rfl
  ·cases h
 ·cases h
theorem zCD(F:Fit c n R G st a w){fn:Func}{b:Bool}{o:Out}(h:ztt P b c.m fn.results.toList st=some o):
  ∃V R' G',(results fn a.tmps).run P w=.ok V w∧WRel R' G' o.h w∧Since c R' G' o.h w∧Rel (look G' o.h) R' o.v V:=by
 cases b with
 |true=>obtain⟨V,G',h1,h2,h3,h4⟩:=zDk F h;exact⟨V,R,G',h1,h2,h3,h4⟩
 |false=>obtain⟨V,R',G',h1,h2,h3,h4,_⟩:=zyC F h;exact⟨V,R',G',h1,h2,h3,h4⟩
end
section
variable {E : Env} {GP : Ro → Prop} {T : Type} {r : T} {c : Base} {q : Nat}
theorem zx4{R:Ro}{G:List Res}{st st':St}{a:Act}{w:World}{n:Nat}(F:Fit c n R G st a w)(h:zjl c.m st=some st'):∃G',Fit c n R G' st' a w:=by
 unfold zjl at h;simp only[]at h;split at h
 ·rename_i vs hh hn;cases h;exact zlB F hn
 ·cases h
theorem zEY(hmx:E.P.follows .mixedOrders=true)(hΓ:∀C∈E.Γ,SoundC E.P GP C)(hgl:∀R,GP R→GlobOK E.gl R)(hst:Stays GP):
  ∀(code:Code)(K:Cont T)(Q:Exit→Act→World→Prop)(st:St)(R:Ro)(G:List Res)(a:Act)(w:World),
   KOk c E.n GP r K Q→evR E c.m q code st K=some r→Fit c E.n R G st a w→GP R→code.wp E.P Q a w:=by
 intro code;induction code with
 |skip=>intro K Q st R G a w hK h F hGP;exact wp_skip (hK.normal st R G a w h F hGP)
 |label l=>intro K Q st R G a w hK h F hGP;exact wp_label (hK.normal st R G a w h F hGP)
 |ret=>intro K Q st R G a w hK h F hGP;exact wp_ret (hK.ret st R G a w h F hGP)
 |exit i=>intro K Q st R G a w hK h F hGP;exact wp_exit (hK.exits i st R G a w h F hGP)
 |region id ops draw=>
  intro K Q st R G a w hK h F hGP;simp only[evR]at h;split at h
  ·have:=zdU hΓ hgl hst F hGP h (Q:=Q) (fun st' R' G' a' w' h1 h2 h3=>hK.normal st' R' G' a' w' h1 h2 h3) (id:=id);simpa using this
  ·have:=zhM hmx hΓ hgl hst F hGP h (Q:=Q) (fun st' R' G' a' w' h1 h2 h3=>hK.normal st' R' G' a' w' h1 h2 h3) (id:=id);simpa using this
 |scope body ih=>intro K Q st R G a w hK h F hGP;simp only[evR]at h;exact wp_scope_straight (ih K (Exit.noGoto Q) st R G a w ⟨hK.normal,hK.exits,hK.ret⟩ h F hGP)
 |goto l=>intro K Q st R G a w hK h F hGP;simp only[evR]at h;cases h
 |refuse why=>intro K Q st R G a w hK h F hGP;simp only[evR]at h;cases h
 |rangeFunc f ps asg body ih1 ih2=>intro K Q st R G a w hK h F hGP;simp only[evR]at h;cases h
 |seq x y ihx ihy=>intro K Q st R G a w hK h F hGP;simp only[evR]at h;refine wp_seq ?_;exact ihx ⟨fun st'=>evR E c.m q y st' K,K.exits,K.ret⟩ _ st R G a w ⟨fun st' R' G' a' w' h1 h2 h3=>ihy K Q st' R' G' a' w' hK h1 h2 h3,hK.exits,hK.ret⟩ h F hGP
 |cond b x y ihx ihy=>
  intro K Q st R G a w hK h F hGP;simp only[evR]at h;split at h
  ·rename_i t ht;have hb:=Ku (hgl R hGP) F.slots b;rw[ht]at hb;simp only[Rel]at hb;refine wp_cond hb ?_;cases t
   ·exact ihy K Q st R G a w hK h F hGP
   ·exact ihx K Q st R G a w hK h F hGP
  ·cases h
 |block i x ih=>
  intro K Q st R G a w hK h F hGP;simp only[evR]at h;refine wp_block (ih (Xh i K) _ st R G a w ⟨hK.normal,fun j st' R' G' a' w' h1 h2 h3=>?_,hK.ret⟩ h F hGP);simp only[Xh]at h1;show(if j=i then Q .normal a' w' else Q (.exit j) a' w');split at h1
  ·rename_i hb;rw[if_pos (qz.1 hb)];exact hK.normal st' R' G' a' w' h1 h2 h3
  ·rename_i hb;rw[if_neg (fun e=>by rw[qz.2 e]at hb;cases hb)];exact hK.exits j st' R' G' a' w' h1 h2 h3
 |loop x ih=>
  intro K Q st R G a w hK h F hGP;simp only[evR]at h;generalize hB:(fun(again:St→Option T) st'=>evR E c.m q x st' ⟨fun st''=>match zjl c.m st'' with
   |some s=>again s
   |none=>none,K.exits,K.ret⟩)=B at h
  refine X6 (ι:=Nat) id (fun n a w=>∃st R G,Za B n st=some r∧Fit c E.n R G st a w∧GP R) ?_ q ⟨st,R,G,h,F,hGP⟩;intro n a w ⟨st,R,G,h,F,hGP⟩;cases n with
  |zero=>cases h
  |succ n=>
   have h1:B (Za B n) st=some r:=h;have h':evR E c.m q x st ⟨fun st''=>match zjl c.m st'' with
    |some s=>Za B n s
    |none=>none,K.exits,K.ret⟩=some r:=by
    have h2:=congrFun (congrFun hB (Za B n)) st;rw[←h2]at h1;exact h1
   refine ih ⟨fun st''=>match zjl c.m st'' with
    |some s=>Za B n s
    |none=>none,K.exits,K.ret⟩ _ st R G a w ⟨fun st' R' G' a' w' h1 h2 h3=>?_,hK.exits,hK.ret⟩ h' F hGP
   simp only[]at h1;split at h1
   ·rename_i s hs;obtain⟨G2,F2⟩:=zx4 h2 hs;exact⟨n,Nat.lt_succ_self n,s,R',G2,h1,F2,h3⟩
   ·cases h1
end
structure RunW where
 Γ:FuncId→List Con
 fs:FuncId→List FuncId
 qs:FuncId→List FuncId
 ns:FuncId→Bool
 q:Nat
 ok:∀g f,memN f (qs g)=true→f∉fs g∧∀C∈Γ g,C.f=f→QuietC C
def RunW.all(S:RunW)(g:FuncId)(F:FuncId→List AV→Heap→Option Out):List Con:=S.Γ g++((S.fs g).map (zEq F)++(S.qs g).map (zEp F))
theorem RunW.qok(S:RunW)(g:FuncId)(F:FuncId→List AV→Heap→Option Out):∀f,memN f (S.qs g)=true→∀C∈S.all g F,C.f=f→QuietC C:=fun f hf C hC e=>by
 obtain⟨h1,h2⟩:=S.ok g f hf;rcases List.mem_append.1 hC with hC|hC
 ·exact h2 C hC e
 ·rcases List.mem_append.1 hC with hC|hC
  ·obtain⟨g',hg,rfl⟩:=List.mem_map.1 hC;exact absurd (show g'∈S.fs g from hg) (by have e:g'=f:=e;rw[e];exact h1)
  ·obtain⟨g',_,rfl⟩:=List.mem_map.1 hC;exact zpx F g'
noncomputable def zeh(P:Program)(gl:Glob)(S:RunW):Nat→FuncId→List AV→Heap→Option Out
 |0,_,_,_=>none
 |n+1,f,args,h=>match P.funcs[f]? with
  |some fn=>match fn.body,VZ P f&&Nat.ble args.length fn.ntmps with
   |some code,true=>evR ⟨P,gl,S.all f (zeh P gl S n),0,fn.ntmps,S.qs f,S.qok f (zeh P gl S n)⟩ h.length S.q code ⟨zoT 0 args,h⟩
    ⟨ztt P (S.ns f) h.length fn.results.toList,fun _ _=>none,ztt P (S.ns f) h.length fn.results.toList⟩
   |_,_=>none
  |none=>none
theorem JI{P:Program}{GP:Ro→Prop}{gl:Glob}(b:Bas P GP gl)(S:RunW)(hΓ:∀g,∀C∈S.Γ g,SoundC P GP C):∀n g,SoundC P GP (zEq (zeh P gl S n) g)
 |0,g=>fun _ _ _ _ _ hs=>by cases hs
 |n+1,g=>by
  intro args h x r hd hs;have hx:(args,h)=x:=Option.some.inj hd;subst hx;have hs':zeh P gl S (n+1) g args h=some r:=hs;have quiet:∀g,SoundC P GP (zEp (zeh P gl S n) g):=fun g args h x r hd hs=>by obtain⟨e1,_⟩:=zdK hs;exact JI b S hΓ n g args h x r hd e1
  unfold zeh at hs';split at hs'
  ·rename_i fn hf;split at hs'
   ·rename_i code hb hen;obtain⟨h1,h2⟩:=Bool.and_eq_true_iff.1 hen;refine⟨jM h1,fun R G w vs hGP W hargs=>?_⟩;have hlen:vs.length=args.length:=hargs.length.symm;have hkn':=Nat.le_of_ble_eq_true h2;refine calls_of_wp hf hb ?_;let c:Base:=⟨R,look G h,fpsAll G h,w,h.length⟩
    let a0:Act:={tmps:=vs.toArray++Array.replicate (fn.ntmps-vs.toArray.size) undef,defers:=[]}
    have F0:Fit c fn.ntmps R G ⟨zoT 0 args,h⟩ a0 w:=by
     refine⟨W,⟨Keeps.refl _ _,fun _ _ h=>h,fun b h=>.inl h,fun i r b hi hr hb=>.inl (yb.2 ⟨i,r,hi,hr,hb⟩),fun _ _ _=>rfl,Nat.le_refl _⟩,zib hargs fun p v hp=>?_,rfl,?_⟩
     ·have hlt:=(List.getElem?_eq_some_iff.1 hp).1;rw[Nat.zero_add];show(vs.toArray++Array.replicate (fn.ntmps-vs.toArray.size) undef).getD p undef=v;have h4:=(List.getElem?_eq_some_iff.1 hp).2;simp[Array.getElem?_append,hlt];exact h4
     ·show(vs.toArray++Array.replicate (fn.ntmps-vs.toArray.size) undef).size=fn.ntmps;simp;omega
    have ret:∀st R' G'(a:Act) w',ztt P (S.ns g) c.m fn.results.toList st=some r→Fit c fn.ntmps R' G' st a w'→GP R'→a.defers=[]∧∃v,(results fn a.tmps).run P w'=.ok v w'∧
      (∃V R' G',Ending.returned v=.returned V∧WRel R' G' r.h w'∧Since c R' G' r.h w'∧Rel (look G' r.h) R' r.v V):=by
     intro st R' G' a w' h F _;obtain⟨V,R2,G2,g1,g2,g3,g4⟩:=zCD F h;exact⟨F.defers,V,g1,V,R2,G2,rfl,g2,g3,g4⟩
    refine zEY (E:=⟨P,gl,S.all g (zeh P gl S n),0,fn.ntmps,S.qs g,S.qok g (zeh P gl S n)⟩) (c:=c) b.hmx (fun C hC=>?_) b.hgl b.hst code
     ⟨ztt P (S.ns g) c.m fn.results.toList,fun _ _=>none,ztt P (S.ns g) c.m fn.results.toList⟩ _ _ R G a0 w
     ⟨fun st R' G' a w' h F hG=>ret st R' G' a w' h F hG,(fun i st R' G' a w' h _ _=>by cases h),fun st R' G' a w' h F hG=>ret st R' G' a w' h F hG⟩ hs' F0 hGP
    rcases List.mem_append.1 hC with hC|hC
    ·exact hΓ g C hC
    ·rcases List.mem_append.1 hC with hC|hC
     ·obtain⟨q,_,rfl⟩:=List.mem_map.1 hC;exact JI b S hΓ n q
     ·obtain⟨q,_,rfl⟩:=List.mem_map.1 hC;exact quiet q
   ·cases hs'
  ·cases hs'
end Go.Am
end
