/-
  A part of the proof of the laws.
-/
import Derived.Test.YtkinagkcgpffpaaGreatDoorAm26
import Derived.Lib.SlBytesRowKit
import Derived.Test.YtkinagkcgpffpaaGreatDoorCr
section
namespace Go.Am
open Go Go.RowKit Go.Vc
def zxI{X B:Type}(f:FuncId)(d:List AV→Heap→Option X)(s:X→Option B)(e:B→AV):Con:=
 Con6.c ⟨f,Heap×X,B,fun a h=>match d a h with
  |some x=>some (h,x)
  |none=>none,fun x=>s x.2,fun x r=>⟨e r,x.1⟩⟩
theorem zjB{P:Program}{GP:Ro→Prop}{X B:Type}{f:FuncId}{d:List AV→Heap→Option X}{s:X→Option B}{e:B→AV}(he:Zi P f=true)(vB:B→Value)(hv:∀r L R,Rel L R (e r) (vB r))
  (h4:∀args h x r R G w vs,d args h=some x→s x=some r→GP R→WRel R G h w→RelL (look G h) R args vs→Calls P f vs.toArray w fun e' w'=>e'=.returned (vB r)∧Keeps [] w w'):SoundC P GP (zxI f d s e):=by
 intro args h y r hd hs;have hd:(match d args h with
  |some x=>some (h,x)
  |none=>none)=some y:=hd
 split at hd
 ·rename_i x hx;cases hd;refine⟨jk he,fun R G w vs hGP W hargs=>?_⟩;refine(h4 args h x r R G w vs hx hs hGP W hargs).mono fun e' w' ⟨he',k⟩=>?_
  have kb:∀b,b<w.heap.size→w'.heap[b]? =w.heap[b]? :=fun b hb=>k.block b hb (by simp)
  refine⟨vB r,R,G,he',⟨W.len,fun i o q ho hg=>(W.obj i o q ho hg).stable (fun b hb=>kb b ((W.obj i o q ho hg).lt b hb)) (fun _ _ h=>h) (fun _ _ _ h=>h),W.sep,W.sepR,fun b o hb=>?_⟩,
   ⟨k.mono (by simp),fun _ _ h=>h,fun b h=>.inl h,fun i q b hl hg hb=>.inl (zX.2 ⟨i,q,hl,hg,hb⟩),fun i _ _=>rfl,Nat.le_refl _⟩,hv r _ _⟩
  rw[kb b (zG (W.ro b o hb))];exact W.ro b o hb
 ·cases hd
end Go.Am
end
section
namespace Go.Am
open Go Go.RowKit Go.Vc
def zvh{X:Type}(f:FuncId)(d:List AV→Heap→Option X)(s:X→Option AO)(e:Nat→AV):Con:=
 Con6.c ⟨f,Heap×X,AO,fun a h=>match d a h with
  |some x=>some (h,x)
  |none=>none,fun x=>s x.2,fun x ao=>⟨e x.1.length,x.1++[some ao]⟩⟩
theorem zcP{P:Program}{GP:Ro→Prop}{X:Type}{f:FuncId}{d:List AV→Heap→Option X}{s:X→Option AO}{e:Nat→AV}(he:Proofs.Enters P f)
  (h4:∀args h x ao R G w vs,d args h=some x→s x=some ao→GP R→WRel R G h w→RelL (look G h) R args vs→Calls P f vs.toArray w fun e' w'=>∃V r,e'=.returned V∧Keeps [] w w'∧(∀b∈r.fp,w.heap.size≤b)∧
   (∀L',ObjRel L' R r ao w')∧∀L',L' h.length=some ⟨r.b,r.virt,r.cap,lenO ao⟩→Rel L' R (e h.length) V):SoundC P GP (zvh f d s e):=by
 intro args h y ao hd hs;have hd:(match d args h with
  |some x=>some (h,x)
  |none=>none)=some y:=hd
 split at hd
 ·rename_i x hx;cases hd;refine⟨he,fun R G w vs hGP W hargs=>?_⟩;refine(h4 args h x ao R G w vs hx hs hGP W hargs).mono fun e' w' ⟨V,r,he',hk,hfp,ho,hv⟩=>?_
  let c:Base:=⟨R,look G h,fpsAll G h,w,h.length⟩
  have F:Fit c 0 R G ⟨[],h⟩ {tmps:= #[],defers:=[]} w:=by refine⟨W,⟨Keeps.refl _ _,fun _ _ h=>h,fun b h=>.inl h,fun i r b hi hr hb=>.inl (zX.2 ⟨i,r,hi,hr,hb⟩),fun _ _ _=>rfl,Nat.le_refl _⟩,fun t=>?_,rfl,rfl⟩;exact trivial
  obtain⟨G1,F1,hfree,hlen⟩:=F.wide 1;have hlt:h.length<(wide h 1).length:=by rw[hlen];exact Nat.lt_succ_self _
  obtain⟨F2,hl,_⟩:=F1.fresh (i:=h.length) (ao:=ao) (r:=r) hlt (Nat.le_refl _) (hfree _ (Nat.le_refl _)) hk hfp fun L' _=>ho L'
  have hset:(wide h 1).set h.length (some (show AO from ao))=h++[some (show AO from ao)]:=by rw[zeU];simp
  rw[hset]at F2 hl;exact⟨V,R,G1.set h.length r,he',F2.wrel,F2.since,hv _ hl⟩
 ·cases hd
def zmf:AV→Bool
 |.int _ _=>true
 |.bool _=>true
 |.str _=>true
 |_=>false
theorem znw{L L':Lk}{R R':Ro}{v:AV}{V:Value}(h:zmf v=true)(hr:Rel L R v V):Rel L' R' v V:=by cases v<;>first|exact hr|cases h
theorem XQ{L L':Lk}{R R':Ro}:∀{l:List AV}{vs:List Value},l.all zmf=true→RelL L R l vs→RelL L' R' l vs
 |[],_,_,h=>h
 |v::r,vs,h,⟨u,us,h1,h2,h3⟩=>by rw[List.all_cons,Bool.and_eq_true]at h;exact⟨u,us,h1,znw h.1 h2,XQ h.2 h3⟩
theorem zm0{P:Program}{GP:Ro→Prop}{F:FuncId→List AV→Heap→Option Out}{g:FuncId}{l:List (AV×AV)}(hF:SoundC P GP (zwD F g))(hp:((l.map (·.1)).all zmf&&(l.map (·.2)).all zmf)=true)
  (h:F g [] []=some ⟨.map 0,[some (.mp l)]⟩):SoundC P GP (zvh g (fun a _=>match a with
   |[]=>some ()
   |_=>none) (fun _=>some (.mp l)) .map):=by
 obtain⟨hE,hC⟩:=hF [] [] ([],[]) ⟨.map 0,[some (.mp l)]⟩ rfl h;rw[Bool.and_eq_true]at hp;refine zcP hE fun args hh x ao R G w vs hd hs hGP W hr=>?_
 cases hs;have hvs:vs=[]:=by
  split at hd
  ·exact hr
  ·cases hd
 subst hvs;have W0:WRel R [] [] w:=⟨rfl,fun i o r ho _=>(by simp[hget]at ho),fun i j ri rj _ hi=>(by obtain⟨o,ho⟩:=hi;simp[hget]at ho),fun i r hi=>(by obtain⟨o,ho⟩:=hi;simp[hget]at ho),W.ro⟩
 refine(hC R [] w [] hGP W0 rfl).mono fun e' w' ⟨V,R',G',he,W',S',hV⟩=>?_
 have W':WRel R' G' [some (.mp l)] w':=W';have S':Since ⟨R,look [] [],fpsAll [] [],w,0⟩ R' G' [some (.mp l)] w':=S';have hV:Rel (look G' [some (.mp l)]) R' (.map 0) V:=hV;have hx:fpsAll [] []=[]:=rfl;have hl:hget [some (AO.mp l)] 0=some (.mp l):=rfl;obtain⟨r,hG⟩:=W'.res ⟨_,hl⟩;obtain⟨g1,g2,g3,g4,es,ck,g5,g6,g7⟩:=W'.obj 0 _ r hl hG;obtain⟨f,f1,f2,f3⟩:=hV;rw[zH hl hG]at f1;cases f1;refine⟨V,r,he,by have:=S'.keeps;rwa [hx]at this,fun b hb=>?_,fun L'=>⟨g1,g2,g3,g4,es,ck,g5,XQ hp.1 g6,XQ hp.2 g7⟩,fun L' hL=>⟨_,hL,f2,f3⟩⟩;rcases S'.own 0 r b ⟨_,hl⟩ hG hb with h|h
 ·rw[show(Base.mk R (look [] []) (fpsAll [] []) w 0).X=[]from hx]at h;cases h
 ·exact h
end Go.Am
end
section
namespace Go.Am
open Go Go.RowKit Go.Vc
section
variable {E : Env} {T : Type} {r : T}
theorem zeK{strict:Bool}{nid f:Nat}{args:List AV}{st:St}{k:AV→St→Option T}(h:j9 E strict nid f args st k=some r):
  ∃v st',k v st'=some r∧∀(T':Type)(k':AV→St→Option T'),j9 E strict nid f args st k'=k' v st':=by
 unfold j9 at h⊢;simp only[]at h⊢;split at h
 ·rename_i args' hv h1 h2 h3;obtain⟨o,h4,_,h5⟩:=Zo h;split at h4
  ·rename_i v ho g1 g2 g3 g4;split at h4
   ·rename_i hg;exact⟨_,_,h4,fun T' k'=>by rw[h5 T'];simp only[g1,g2,g3,g4,hg]⟩
   ·rename_i hg;split at h4
    ·cases h4
    ·refine⟨_,_,h4,fun T' k'=>?_⟩;rw[h5 T'];simp only[g1,g2,g3,g4]
  ·cases h4
 ·cases h
theorem zaM{strict:Bool}{nid:Nat}{op:Op}{st:St}{k:AV→St→Option T}(h:opK E strict nid op st k=some r):
  ∃v st',k v st'=some r∧∀(T':Type)(k':AV→St→Option T'),opK E strict nid op st k'=k' v st':=by
 cases strict with
 |true=>obtain⟨v,u,h1,_,_,h2⟩:=zgs h;exact⟨v,_,h1,fun T' k'=>h2 st (fun _ _=>rfl) (fun _=>rfl) (fun _ _ _=>rfl) T' k'⟩
 |false=>
  have tt:∀{op:Op},(∀(T:Type)(k:AV→St→Option T),opK E false nid op st k=opK E true nid op st k)→opK E false nid op st k=some r→
    ∃v st',k v st'=some r∧∀(T':Type)(k':AV→St→Option T'),opK E false nid op st k'=k' v st':=by
   intro op e h;rw[e]at h;obtain⟨v,u,h1,_,_,h2⟩:=zgs h;exact⟨v,_,h1,fun T' k'=>by rw[e];exact h2 st (fun _ _=>rfl) (fun _=>rfl) (fun _ _ _=>rfl) T' k'⟩
  cases op with
  |call c=>
   obtain⟨callee,args,ats⟩:=c;cases callee with
   |value f=>
    simp only[opK]at h⊢;split at h
    ·exact zeK h
    ·obtain⟨g,h1,h2⟩:=WG h;obtain⟨v,st',h3,h4⟩:=zeK h1;exact⟨v,st',h3,fun T' k'=>by rw[h2,h4]⟩
    ·cases h
   |builtin b=>
    cases b with
    |append=>
     simp only[opK]at h⊢;split at h
     ·split at h
      ·rename_i bb cc o hg;cases bb with
       |false=>rw[cond_false]at h;exact⟨_,_,h,fun _ _=>by rw[cond_false]⟩
       |true=>rw[cond_true]at h;obtain⟨rfl,h⟩:=zn h;exact⟨_,_,h,fun _ _=>by rw[cond_true];rfl⟩
      ·split at h
       ·obtain⟨hc,h⟩:=zn h;exact⟨_,_,h,fun _ _=>by rw[hc];rfl⟩
       ·obtain⟨hc,h⟩:=zn h;exact⟨_,_,h,fun _ _=>by rw[hc];rfl⟩
       ·cases h
     ·cases h
    |_=>exact tt (fun _ _=>rfl) h
   |_=>exact tt (fun _ _=>rfl) h
  |range t x=>
   simp only[opK]at h⊢;split at h
   ·exact⟨_,_,h,fun _ _=>rfl⟩
   ·cases h
  |next x s=>
   cases s with
   |false=>exact tt (fun _ _=>rfl) h
   |true=>
    simp only[opK]at h⊢;split at h
    ·rename_i i e1 e2;split at h
     ·rename_i l pos hg;cases hb:Nat.blt pos l.length with
      |true=>rw[hb]at h;exact⟨_,_,h,fun _ _=>by rw[cond_true]⟩
      |false=>rw[hb]at h;exact⟨_,_,h,fun _ _=>by rw[cond_false]⟩
     ·cases h
    ·cases h
  |_=>exact tt (fun _ _=>rfl) h
theorem yW{strict:Bool}{all:List Oper}:∀{l:List Oper}{nid:Nat}{st:St}{k:St→Option T},jB E strict all l nid st k=some r→
  ∃st',k st'=some r∧∀(T':Type)(k':St→Option T'),jB E strict all l nid st k'=k' st'
 |[],_,st,_,h=>⟨st,h,fun _ _=>rfl⟩
 |o::l,nid,st,k,h=>by
  simp only[jB]at h⊢;split at h
  ·cases h
  ·have go:∀{st0:St},opK E strict nid o.op st0 (fun v st'=>jB E strict all l (nid+rsv o) ⟨putO o.dst v st'.s,st'.h⟩ k)=some r→∃st',k st'=some r∧
     ∀(T':Type)(k':St→Option T'),opK E strict nid o.op st0 (fun v st'=>jB E strict all l (nid+rsv o) ⟨putO o.dst v st'.s,st'.h⟩ k')=k' st':=by
    intro st0 h;obtain⟨v,st1,h1,h2⟩:=zaM h;obtain⟨st2,h3,h4⟩:=yW h1;exact⟨st2,h3,fun T' k'=>by rw[h2,h4]⟩
   split at h
   ·rename_i hg;obtain⟨st2,h3,h4⟩:=go h;exact⟨st2,h3,fun T' k'=>h4 T' k'⟩
   ·rename_i g want hg;split at h
    ·rename_i t ht;split at h
     ·rename_i b hb1 hb2;cases b<;>cases want<;>simp only[cond_true,cond_false]at h⊢
      ·obtain⟨st2,h3,h4⟩:=go h;exact⟨st2,h3,fun T' k'=>h4 T' k'⟩
      ·obtain⟨st2,h3,h4⟩:=yW h;exact⟨st2,h3,fun T' k'=>h4 T' k'⟩
      ·obtain⟨st2,h3,h4⟩:=yW h;exact⟨st2,h3,fun T' k'=>h4 T' k'⟩
      ·obtain⟨st2,h3,h4⟩:=go h;exact⟨st2,h3,fun T' k'=>h4 T' k'⟩
     ·obtain⟨st2,h3,h4⟩:=yW h;exact⟨st2,h3,fun T' k'=>h4 T' k'⟩
     ·cases h
    ·cases h
theorem zg5{ops:List Oper}{st:St}{k:St→Option T}(h:Qg E ops st k=some r):∃st',k st'=some r∧∀(T':Type)(k':St→Option T'),Qg E ops st k'=k' st':=yW h
theorem zdj{all:List Oper}{base:Nat}:∀{fl:List (Oper×Nat)}{st:St}{k:St→Option T},zg7 E all base fl st k=some r→
  ∃st',k st'=some r∧∀(T':Type)(k':St→Option T'),zg7 E all base fl st k'=k' st'
 |[],st,_,h=>⟨st,h,fun _ _=>rfl⟩
 |(o,j)::fl,st,k,h=>by
  simp only[zg7]at h⊢;split at h
  ·obtain⟨v,st1,h1,h2⟩:=zaM h;obtain⟨st2,h3,h4⟩:=zdj h1;exact⟨st2,h3,fun T' k'=>by rw[h2];exact h4 T' k'⟩
  ·obtain⟨st2,h3,h4⟩:=zdj h;exact⟨st2,h3,fun T' k'=>h4 T' k'⟩
  ·cases h
theorem ziV{all:List Oper}{base:Nat}{st:St}:∀{fl:List (Oper×Nat)}{k:Option T},zav E all base fl st k=some r→k=some r∧∀(T':Type)(k':Option T'),zav E all base fl st k'=k'
 |[],_,h=>⟨h,fun _ _=>rfl⟩
 |(o,j)::fl,k,h=>by
  simp only[zav]at h⊢;split at h
  ·cases h
  ·have go:∀{v:AV},cond (zag o.dst v st) (zav E all base fl st k) none=some r→k=some r∧∀(T':Type)(k':Option T'),cond (zag o.dst v st) (zav E all base fl st k') none=k':=by
    intro v h;cases hd:zag o.dst v st with
    |false=>rw[hd]at h;cases h
    |true=>rw[hd,cond_true]at h;obtain⟨h1,h2⟩:=ziV h;exact⟨h1,fun T' k'=>by rw[cond_true];exact h2 T' k'⟩
   split at h
   ·obtain⟨v,st1,h1,h2⟩:=zaM h;obtain⟨h3,h4⟩:=go h1;exact⟨h3,fun T' k'=>by rw[h2];exact h4 T' k'⟩
   ·exact go h
   ·cases h
theorem zrr{all:List Oper}{base:Nat}{o:Oper}{i:Nat}{st:St}{k:St→Option T}(h:zha E all base o i st k=some r):∃st',k st'=some r∧∀(T':Type)(k':St→Option T'),zha E all base o i st k'=k' st':=by
 unfold zha at h⊢;split at h
 ·obtain⟨v,st1,h1,h2⟩:=zaM h;exact⟨_,h1,fun T' k'=>h2 T' _⟩
 ·exact⟨_,h,fun _ _=>rfl⟩
 ·cases h
theorem zcr{all:List Oper}{base:Nat}{B:List (List Nat)}{fs az:List (Oper×Nat)}{pa:Option Nat}{st:St}{k:St→Option T}(h:Xo E all base B fs az pa st k=some r):
  ∃st',k st'=some r∧∀(T':Type)(k':St→Option T'),Xo E all base B fs az pa st k'=k' st':=by
 unfold Xo at h⊢;obtain⟨st1,h1,h2⟩:=zdj h;obtain⟨h3,h4⟩:=ziV h1;exact⟨st1,h3,fun T' k'=>by rw[h2];exact h4 T' _⟩
theorem zmg{all:List Oper}{base:Nat}{B:List (List Nat)}{fs:List (Oper×Nat)}:∀{az:List (Oper×Nat)}{pa:Option Nat}{st:St}{k:St→Option T},evG E all base B fs az pa st k=some r→
  ∃st',k st'=some r∧∀(T':Type)(k':St→Option T'),evG E all base B fs az pa st k'=k' st'
 |[],_,_,_,h=>zcr h
 |(o,i)::az,pa,st,k,h=>by simp only[evG]at h⊢;obtain⟨st1,h1,h2⟩:=zcr h;obtain⟨st2,h3,h4⟩:=zrr h1;obtain⟨st3,h5,h6⟩:=zmg h3;exact⟨st3,h5,fun T' k'=>by rw[h2,h4];exact h6 T' k'⟩
theorem qY{ops:List Oper}{st:St}{k:St→Option T}(h:j4 E ops st k=some r):∃st',k st'=some r∧∀(T':Type)(k':St→Option T'),j4 E ops st k'=k' st':=by
 unfold j4 at h⊢;simp only[]at h⊢;split at h
 ·exact zmg h
 ·cases h
theorem zkz{ops:List Oper}{st:St}{k:St→Option T}(h:Wz E ops st (j4 E ops st k) k=some r):∃st',k st'=some r∧∀(T':Type)(k':St→Option T'),Wz E ops st (j4 E ops st k') k'=k' st':=by
 unfold Wz at h⊢;split at h
 ·rename_i h0;obtain⟨st1,h1,h2⟩:=yW h;split at h1
  ·rename_i h3;exact⟨st1,h1,fun T' k'=>by rw[h2];simp only[h3]⟩
  ·rename_i h3;obtain⟨st4,h4,h5⟩:=qY h1;exact⟨st4,h4,fun T' k'=>by rw[h2];simp only[h3];exact h5 T' k'⟩
 ·exact qY h
theorem Qi{m:Nat}{ops:List Oper}{st:St}{k:St→Option T}(h:qG E m ops st (j4 E ops st k) k=some r):∃st',k st'=some r∧∀(T':Type)(k':St→Option T'),qG E m ops st (j4 E ops st k') k'=k' st':=by
 unfold qG at h⊢;split at h
 ·rename_i h0;obtain⟨st1,h1,h2⟩:=yW h;split at h1
  ·rename_i h3;obtain⟨st2,h4,h5⟩:=yW h1;exact⟨st2,h4,fun T' k'=>by rw[h2];simp only[h3];exact h5 T' k'⟩
  ·rename_i h3;obtain⟨st4,h4,h5⟩:=qY h1;exact⟨st4,h4,fun T' k'=>by rw[h2];simp only[h3];exact h5 T' k'⟩
 ·exact qY h
theorem ziL{ops:List Oper}{st:St}{k:St→Option T}(h:Z2 E ops st k=some r):∃st',k st'=some r∧∀(T':Type)(k':St→Option T'),Z2 E ops st k'=k' st':=by
 unfold Z2 at h⊢;split at h
 ·exact Qi h
 ·split at h
  ·exact Qi h
  ·split at h
   ·exact Qi h
   ·split at h
    ·exact qY h
    ·exact zkz h
theorem Vz{ops:List Oper}{st:St}{k:St→Option T}(h:ZG E ops st k=some r):∃st',k st'=some r∧∀(T':Type)(k':St→Option T'),ZG E ops st k'=k' st':=by
 unfold ZG at h⊢;split at h
 ·rename_i s hs;exact⟨s,h,fun _ _=>rfl⟩
 ·split at h
  ·rename_i s hs;exact⟨s,h,fun _ _=>rfl⟩
  ·cases h
theorem zg8{ops:List Oper}{st:St}{k:St→Option T}(h:Jz E ops st k=some r):∃st',k st'=some r∧∀(T':Type)(k':St→Option T'),Jz E ops st k'=k' st':=by
 unfold Jz at h⊢;split at h
 ·exact Vz h
 ·split at h
  ·exact ziL h
  ·exact Vz h
inductive Lv where
 |normal
 |exit (i:Nat)
 |ret
def Cont.at{R:Type}(K:Cont R):Lv→St→Option R
 |.normal=>K.normal
 |.exit i=>K.exits i
 |.ret=>K.ret
theorem zvw{m q:Nat}:∀(code:Code){T:Type}{r:T}{st:St}{K:Cont T},evR E m q code st K=some r→
  ∃e st',K.at e st'=some r∧∀(T':Type)(K':Cont T'),evR E m q code st K'=K'.at e st':=by
 intro code;induction code with
 |skip=>intro T r st K h;exact⟨.normal,st,h,fun _ _=>rfl⟩
 |label l=>intro T r st K h;exact⟨.normal,st,h,fun _ _=>rfl⟩
 |ret=>intro T r st K h;exact⟨.ret,st,h,fun _ _=>rfl⟩
 |exit i=>intro T r st K h;exact⟨.exit i,st,h,fun _ _=>rfl⟩
 |region id ops draw=>
  intro T r st K h;simp only[evR]at h⊢;cases draw with
  |false=>obtain⟨st1,h1,h2⟩:=zg5 h;exact⟨.normal,st1,h1,fun T' K'=>h2 T' K'.normal⟩
  |true=>obtain⟨st1,h1,h2⟩:=zg8 h;exact⟨.normal,st1,h1,fun T' K'=>h2 T' K'.normal⟩
 |scope body ih=>intro T r st K h;simp only[evR]at h⊢;exact ih h
 |goto l=>intro T r st K h;simp only[evR]at h;cases h
 |refuse why=>intro T r st K h;simp only[evR]at h;cases h
 |rangeFunc f ps asg body ih1 ih2=>intro T r st K h;simp only[evR]at h;cases h
 |seq x y ihx ihy=>
  intro T r st K h;simp only[evR]at h⊢;obtain⟨e,st1,h1,h2⟩:=ihx h;cases e with
  |normal=>obtain⟨e,st2,h3,h4⟩:=ihy h1;exact⟨e,st2,h3,fun T' K'=>by rw[h2];exact h4 T' K'⟩
  |exit i=>exact⟨.exit i,st1,h1,fun T' K'=>by rw[h2];rfl⟩
  |ret=>exact⟨.ret,st1,h1,fun T' K'=>by rw[h2];rfl⟩
 |cond b x y ihx ihy=>
  intro T r st K h;simp only[evR]at h⊢;split at h
  ·rename_i t ht;cases t with
   |true=>exact ihx h
   |false=>exact ihy h
  ·cases h
 |block i x ih=>
  intro T r st K h;simp only[evR]at h⊢;obtain⟨e,st1,h1,h2⟩:=ih h;cases e with
  |normal=>exact⟨.normal,st1,h1,fun T' K'=>by rw[h2];rfl⟩
  |ret=>exact⟨.ret,st1,h1,fun T' K'=>by rw[h2];rfl⟩
  |exit j=>
   have h1:(yB i K).exits j st1=some r:=h1;simp only[yB]at h1;cases hb:Nat.beq j i with
   |true=>rw[hb]at h1;exact⟨.normal,st1,h1,fun T' K'=>by rw[h2];show(yB i K').exits j st1=_;simp only[yB,hb];rfl⟩
   |false=>rw[hb]at h1;exact⟨.exit j,st1,h1,fun T' K'=>by rw[h2];show(yB i K').exits j st1=_;simp only[yB,hb];rfl⟩
 |loop x ih=>
  intro T r st K h;simp only[evR]at h⊢;have key:∀n{st:St},yG (fun again st'=>evR E m q x st' ⟨fun st''=>match Xb m st'' with
   |some s=>again s
   |none=>none,K.exits,K.ret⟩) n st=some r→∃e st',K.at e st'=some r∧∀(T':Type)(K':Cont T'),yG (fun again st'=>evR E m q x st' ⟨fun st''=>match Xb m st'' with
   |some s=>again s
   |none=>none,K'.exits,K'.ret⟩) n st=K'.at e st':=by
   intro n;induction n with
   |zero=>intro st h;cases h
   |succ n ihn=>
    intro st h;obtain⟨e,st1,h1,h2⟩:=ih h;cases e with
    |normal=>
     have h1:(match Xb m st1 with
      |some s=>yG _ n s
      |none=>none)=some r:=h1
     split at h1
     ·rename_i s hs;obtain⟨e,st2,h3,h4⟩:=ihn h1;refine⟨e,st2,h3,fun T' K'=>?_⟩;rw[←h4 T' K'];refine(h2 T' _).trans ?_;show(match Xb m st1 with
       |some s=>yG _ n s
       |none=>none)=_
      rw[hs]
     ·cases h1
    |exit i=>exact⟨.exit i,st1,h1,fun T' K'=>h2 T' _⟩
    |ret=>exact⟨.ret,st1,h1,fun T' K'=>h2 T' _⟩
  exact key q h
end
structure RunT where
 D:FuncId→List AV→Heap→Option Out
 G:(T:Type)→FuncId→List AV→Heap→(Out→Option T)→Option T
 ok:∀(T:Type)(f:FuncId)(a:List AV)(h:Heap)(k:Out→Option T)(r:T),G T f a h k=some r→∃o,D f a h=some o∧k o=some r∧∀(T':Type)(k':Out→Option T'),G T' f a h k'=k' o
def inC(F:RunT)(g:FuncId):Con:=⟨g,List AV×Heap,Out,fun a h=>some (a,h),fun x=>F.D g x.1 x.2,fun _ o=>o,fun T x k=>F.G T g x.1 x.2 k,fun T x k r h=>F.ok T g x.1 x.2 k r h⟩
def RunT.nil:RunT:=⟨fun _ _ _=>none,fun _ _ _ _ _=>none,fun _ _ _ _ _ _ h=>by cases h⟩
noncomputable def WS(P:Program)(gl:Glob)(Γ:List Con)(fs:List FuncId)(q:Nat)(F:RunT)(T:Type)(f:FuncId)(args:List AV)(h:Heap)(k:Out→Option T):Option T:=match P.funcs[f]? with
 |some fn=>match fn.body,Zi P f&&Nat.ble args.length fn.ntmps with
  |some code,true=>evR ⟨P,gl,Γ++fs.map (inC F),1,fn.ntmps,[],fun _ h=>by cases h⟩ h.length q code ⟨WM 0 args,h⟩
   ⟨fun st=>bnd (Q4 P h.length fn.results.toList st) k,fun _ _=>none,fun st=>bnd (Q4 P h.length fn.results.toList st) k⟩
  |_,_=>none
 |none=>none
theorem znN{P:Program}{gl:Glob}{Γ:List Con}{fs:List FuncId}{q:Nat}{F:RunT}{T:Type}{f:FuncId}{a:List AV}{h:Heap}{k:Out→Option T}{r:T}(e:WS P gl Γ fs q F T f a h k=some r):
  ∃o,WS P gl Γ fs q F Out f a h some=some o∧k o=some r∧∀(T':Type)(k':Out→Option T'),WS P gl Γ fs q F T' f a h k'=k' o:=by
 unfold WS at e⊢;split at e
 ·rename_i fn hf;split at e
  ·rename_i code hb hen;obtain⟨lv,st1,h1,h2⟩:=zvw code e;have key:∀{x:Option Out},x=Q4 P h.length fn.results.toList st1→bnd x k=some r→(∀(T':Type)(k':Out→Option T'),(evR ⟨P,gl,Γ++fs.map (inC F),1,fn.ntmps,[],fun _ h=>by cases h⟩ h.length q code ⟨WM 0 a,h⟩
     ⟨fun st=>bnd (Q4 P h.length fn.results.toList st) k',fun _ _=>none,fun st=>bnd (Q4 P h.length fn.results.toList st) k'⟩)=bnd x k')→∃o,(evR ⟨P,gl,Γ++fs.map (inC F),1,fn.ntmps,[],fun _ h=>by cases h⟩ h.length q code ⟨WM 0 a,h⟩
     ⟨fun st=>bnd (Q4 P h.length fn.results.toList st) some,fun _ _=>none,fun st=>bnd (Q4 P h.length fn.results.toList st) some⟩)=some o∧k o=some r∧∀(T':Type)(k':Out→Option T'),(evR ⟨P,gl,Γ++fs.map (inC F),1,fn.ntmps,[],fun _ h=>by cases h⟩ h.length q code ⟨WM 0 a,h⟩
     ⟨fun st=>bnd (Q4 P h.length fn.results.toList st) k',fun _ _=>none,fun st=>bnd (Q4 P h.length fn.results.toList st) k'⟩)=k' o:=by
    intro x _ hx hall;obtain⟨o,rfl,h4⟩:=ZM hx;exact⟨o,hall _ _,h4,fun T' k'=>hall _ _⟩
   cases lv with
   |normal=>exact key rfl h1 fun T' k'=>h2 T' _
   |ret=>exact key rfl h1 fun T' k'=>h2 T' _
   |exit i=>cases h1
  ·cases e
 ·cases e
noncomputable def zxy(P:Program)(gl:Glob)(Γ:List Con)(fs:List FuncId)(q:Nat)(F:RunT):RunT:=⟨fun f a h=>WS P gl Γ fs q F Out f a h some,WS P gl Γ fs q F,fun _ _ _ _ _ _ h=>znN h⟩
noncomputable def ztw(P:Program)(gl:Glob)(Γ:List Con)(fs:List FuncId)(q:Nat):Nat→RunT
 |0=>RunT.nil
 |n+1=>zxy P gl Γ fs q (ztw P gl Γ fs q n)
theorem zew{P:Program}{GP:Ro→Prop}{gl:Glob}(b:Bas P GP gl){Γ:List Con}(hΓ:∀C∈Γ,SoundC P GP C)(fs:List FuncId)(q:Nat):∀n g,SoundC P GP (inC (ztw P gl Γ fs q n) g)
 |0,g=>fun _ _ _ _ _ hs=>by cases hs
 |n+1,g=>by
  intro args h x r hd hs;have hx:(args,h)=x:=Option.some.inj hd;subst hx;have hs':WS P gl Γ fs q (ztw P gl Γ fs q n) Out g args h some=some r:=hs;unfold WS at hs';split at hs'
  ·rename_i fn hf;split at hs'
   ·rename_i code hb hen;obtain⟨h1,h2⟩:=Bool.and_eq_true_iff.1 hen;refine⟨jk h1,fun R G w vs hGP W hargs=>?_⟩;have hlen:vs.length=args.length:=hargs.length.symm;have hkn':=Nat.le_of_ble_eq_true h2;refine calls_of_wp hf hb ?_;let c:Base:=⟨R,look G h,fpsAll G h,w,h.length⟩
    let a0:Act:={tmps:=vs.toArray++Array.replicate (fn.ntmps-vs.toArray.size) undef,defers:=[]}
    have F0:Fit c fn.ntmps R G ⟨WM 0 args,h⟩ a0 w:=by
     refine⟨W,⟨Keeps.refl _ _,fun _ _ h=>h,fun b h=>.inl h,fun i r b hi hr hb=>.inl (zX.2 ⟨i,r,hi,hr,hb⟩),fun _ _ _=>rfl,Nat.le_refl _⟩,VL hargs fun p v hp=>?_,rfl,?_⟩
     ·have hlt:=(List.getElem?_eq_some_iff.1 hp).1;rw[Nat.zero_add];show(vs.toArray++Array.replicate (fn.ntmps-vs.toArray.size) undef).getD p undef=v;have h4:=(List.getElem?_eq_some_iff.1 hp).2;simp[Array.getElem?_append,hlt];exact h4
     ·show(vs.toArray++Array.replicate (fn.ntmps-vs.toArray.size) undef).size=fn.ntmps;simp;omega
    have ret:∀st R' G'(a:Act) w',bnd (Q4 P c.m fn.results.toList st) some=some r→Fit c fn.ntmps R' G' st a w'→GP R'→a.defers=[]∧∃v,(results fn a.tmps).run P w'=.ok v w'∧
      (∃V R' G',Ending.returned v=.returned V∧WRel R' G' r.h w'∧Since c R' G' r.h w'∧Rel (look G' r.h) R' r.v V):=by
     intro st R' G' a w' h F _;obtain⟨o,e1,e2⟩:=ZM h;cases e2;obtain⟨V,G2,g1,g2,g3,g4⟩:=zg3 F e1;exact⟨F.defers,V,g1,V,R',G2,rfl,g2,g3,g4⟩
    refine zro (E:=⟨P,gl,Γ++fs.map (inC (ztw P gl Γ fs q n)),1,fn.ntmps,[],fun _ h=>by cases h⟩) (c:=c) b.hmx (fun C hC=>?_) b.hgl b.hst code
     ⟨fun st=>bnd (Q4 P c.m fn.results.toList st) some,fun _ _=>none,fun st=>bnd (Q4 P c.m fn.results.toList st) some⟩ _ _ R G a0 w
     ⟨fun st R' G' a w' h F hG=>ret st R' G' a w' h F hG,(fun i st R' G' a w' h _ _=>by cases h),fun st R' G' a w' h F hG=>ret st R' G' a w' h F hG⟩ hs' F0 hGP
    rcases List.mem_append.1 hC with hC|hC
    ·exact hΓ C hC
    ·obtain⟨p,_,rfl⟩:=List.mem_map.1 hC;exact zew b hΓ fs q n p
   ·cases hs'
  ·cases hs'
noncomputable def kin{P:Program}{GP:Ro→Prop}{gl:Glob}(b:Bas P GP gl)(Γ:List (Kn P GP))(fs:List FuncId)(q n:Nat)(g:FuncId):Kn P GP:=kn (zew b (zks Γ) fs q n g)
noncomputable def zm6{P:Program}{GP:Ro→Prop}{gl:Glob}(b:Bas P GP gl)(Γ:List (Kn P GP))(fs:List FuncId)(q n:Nat):List (Kn P GP):=Γ++fs.map (kin b Γ fs q n)
end Go.Am
end
section
namespace Go.Am
open Go Go.RowKit Go.Vc
structure RunRow where
 g:FuncId
 Γ:List Con
 fs:List FuncId
 qs:List FuncId
def RunRow.good(r:RunRow):Bool:=r.qs.all fun f=>!memN f r.fs&&r.Γ.all fun C=>!Nat.beq C.f f
def RunRow.of(g:FuncId):List RunRow→RunRow
 |[]=>⟨0,[],[],[]⟩
 |r::l=>cond (Nat.beq r.g g) r (RunRow.of g l)
theorem RunRow.of_good(g:FuncId):∀{l:List RunRow},l.all RunRow.good=true→(RunRow.of g l).good=true
 |[],_=>rfl
 |r::l,h=>by
  rw[List.all_cons,Bool.and_eq_true]at h;unfold RunRow.of;cases Nat.beq r.g g with
  |true=>exact h.1
  |false=>exact RunRow.of_good g h.2
theorem RunRow.of_all(g:FuncId){p:RunRow→Bool}(h0:p ⟨0,[],[],[]⟩=true):∀{l:List RunRow},l.all p=true→p (RunRow.of g l)=true
 |[],_=>h0
 |r::l,h=>by
  rw[List.all_cons,Bool.and_eq_true]at h;unfold RunRow.of;cases Nat.beq r.g g with
  |true=>exact h.1
  |false=>exact RunRow.of_all g h0 h.2
structure Mm where
 g:FuncId
 args:List AV
 h:Heap
 o:Out
def Mm.con(m:Mm):Con:=Con6.c ⟨m.g,Unit,Unit,fun a hh=>cond (y6 a m.args&&Zt hh m.h) (some ()) none,fun _=>some (),fun _ _=>m.o⟩
theorem Mm.quiet{m:Mm}(h:Zt m.o.h m.h=true):QuietC m.con:=fun args hh x r hd _=>by
 have hd:cond (y6 args m.args&&Zt hh m.h) (some ()) none=some x:=hd;cases hb:y6 args m.args&&Zt hh m.h with
 |false=>rw[hb]at hd;cases hd
 |true=>rw[Bool.and_eq_true]at hb;show m.o.h=hh;rw[Zs _ _ hb.2,Zs _ _ h]
def RunRow.quietAll(qa:List FuncId)(r:RunRow):Bool:=r.qs.all fun f=>memN f qa
def Mm.good(qa:List FuncId)(m:Mm):Bool:=!memN m.g qa||Zt m.o.h m.h
def RunRow.runW(l:List RunRow)(qa:List FuncId)(ns:FuncId→Bool)(q:Nat)(h:l.all RunRow.good=true)(h1:l.all (RunRow.quietAll qa)=true)(ms:List Mm)(h2:ms.all (Mm.good qa)=true):RunW:=
 ⟨fun g=>ms.map Mm.con++(RunRow.of g l).Γ,fun g=>(RunRow.of g l).fs,fun g=>(RunRow.of g l).qs,ns,q,fun g f hf=>by
 have:=List.all_eq_true.1 (RunRow.of_good g h) f (zx.1 hf);rw[Bool.and_eq_true]at this;obtain⟨k1,k2⟩:=this;refine⟨fun hm=>?_,fun C hC e=>?_⟩
 ·rw[zx.2 hm]at k1;cases k1
 ·rcases List.mem_append.1 hC with hC|hC
  ·obtain⟨m,hm,rfl⟩:=List.mem_map.1 hC;have k3:=List.all_eq_true.1 h2 m hm;have k4:=List.all_eq_true.1 (RunRow.of_all (p:=RunRow.quietAll qa) g rfl h1) f (zx.1 hf);have e:m.g=f:=e;unfold Mm.good at k3;rw[e,k4]at k3;exact Mm.quiet k3
  ·have:=List.all_eq_true.1 k2 C hC;rw[e,Nat.beq_refl]at this;cases this⟩
theorem RunRow.sound{P:Program}{GP:Ro→Prop}{l:List RunRow}(h:∀r∈l,∀C∈r.Γ,SoundC P GP C)(g:FuncId):∀C∈(RunRow.of g l).Γ,SoundC P GP C:=by
 induction l with
 |nil=>intro C hC;cases hC
 |cons r l ih=>
  unfold RunRow.of;cases Nat.beq r.g g with
  |true=>exact h r List.mem_cons_self
  |false=>exact ih fun r hr=>h r (List.mem_cons_of_mem _ hr)
theorem Mm.sound{P:Program}{GP:Ro→Prop}{gl:Glob}(b:Bas P GP gl){l:List RunRow}{qa:List FuncId}{ns:FuncId→Bool}{q:Nat}{h:l.all RunRow.good=true}{h1:l.all (RunRow.quietAll qa)=true}{ms:List Mm}{h2:ms.all (Mm.good qa)=true}
  (hl:∀r∈l,∀C∈r.Γ,SoundC P GP C) (hm:∀m∈ms,SoundC P GP (Mm.con m)) (m:Mm) (n:Nat) (hr:zao P gl (RunRow.runW l qa ns q h h1 ms h2) n m.g m.args m.h=some m.o):SoundC P GP m.con:=by
 have key:=Zx b (RunRow.runW l qa ns q h h1 ms h2) (fun g C hC=>by
  rcases List.mem_append.1 hC with hC|hC
  ·obtain⟨m,hm',rfl⟩:=List.mem_map.1 hC;exact hm m hm'
  ·exact RunRow.sound hl g C hC) n m.g
 intro args hh x r hd hs;have hd:cond (y6 args m.args&&Zt hh m.h) (some ()) none=some x:=hd;cases hb:y6 args m.args&&Zt hh m.h with
 |false=>rw[hb]at hd;cases hd
 |true=>rw[Bool.and_eq_true]at hb;have e1:=yj _ _ hb.1;have e2:=Zs _ _ hb.2;subst e1 e2;exact key m.args m.h (m.args,m.h) m.o rfl hr
structure RowN where
 g:FuncId
 i:List Nat
 fs:List FuncId
 qs:List FuncId
def zh6(l:List Con):List Nat→List Con
 |[]=>[]
 |i::r=>match l[i]? with
  |some c=>c::zh6 l r
  |none=>zh6 l r
theorem Wh{l:List Con}:∀{i:List Nat}{C:Con},C∈zh6 l i→C∈l
 |[],_,h=>by cases h
 |i::r,C,h=>by
  unfold zh6 at h;split at h
  ·rename_i c hc;rcases List.mem_cons.1 h with h|h
   ·rw[h];exact List.mem_of_getElem? hc
   ·exact Wh h
  ·exact Wh h
def RowN.rows(l:List Con)(r:List RowN):List RunRow:=r.map fun r=>⟨r.g,zh6 l r.i,r.fs,r.qs⟩
theorem RowN.sound{P:Program}{GP:Ro→Prop}{l:List Con}{r:List RowN}(h:∀C∈l,SoundC P GP C):∀x∈RowN.rows l r,∀C∈x.Γ,SoundC P GP C:=fun x hx C hC=>by obtain⟨y,_,rfl⟩:=List.mem_map.1 hx;exact h C (Wh hC)
end Go.Am
end
