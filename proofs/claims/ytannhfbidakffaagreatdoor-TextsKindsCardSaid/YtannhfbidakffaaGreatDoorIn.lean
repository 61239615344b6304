/-
  A part of the proof of the laws.
-/
import Derived.Test.YtannhfbidakffaaGreatDoorAm26
import Derived.Lib.SlBytesRowKit
import Derived.Test.YtannhfbidakffaaGreatDoorCr
namespace Go.Am
open Go Go.RowKit Go.Vc
def rowNums(l:uAU):List Int:=l.map fun c=>(c.toNat:Int)
theorem Z9(l:uAU):(rowNums l).length=l.length:=by simp[rowNums]
theorem qn(l:uAU):Lib.bytesOf (rowNums l)=l:=by unfold Lib.bytesOf rowNums;rw[List.map_map];exact (uAk fun c _=>sI).trans (List.map_id l)
theorem zaB(l:uAU):∀x∈rowNums l,0<=x/\x<256:=by intro x j;obtain⟨c,_,rfl⟩:=uAb.1 j;have:=c.toNat_lt;omega
theorem zb7{w:World}{b off:Nat}{cs:Array Value}{T:TypeId}{fr:Nat×Nat}{l:uAU}{tl:List Value}(I:w.heap[b]? =some (.cells cs T fr))(B:cs.toList.drop off=l.map u8V++tl)(i:Nat)(hi:i<l.length):
  w.cell? ⟨b,off+i,none⟩=some (.int .u8 ((rowNums l).getD i 0)):=by
 have j:cs[off+i]? =some (u8V l[i]):=by have:=congrArg (·[i]?) B;simp only[nI]at this;rw[nH (by simpa using hi),nK,mJ hi]at this;simpa using this
 have H:(rowNums l).getD i 0=(l[i].toNat:Int):=by rw[mN];unfold rowNums;rw[nK,mJ hi];rfl
 rw[H];simp[World.cell?,I,j,u8V]
theorem Ky{R:Ro}{G:List Res}{h:Heap}{w:World}(W:WRel R G h w){v:AV}{V:Value}{l:uAU}(j:yT h v=some l)(hv:Rel (look G h) R v V):
  ∃p cap,V=.slice p l.length cap/\l.length<=cap/\Lib.BytesIn w p l.length (rowNums l):=by
 have live:∀{i:Nat}{o:AO},hget h i=some o->∃r,G[i]? =some r/\look G h i=some ⟨r.b,r.virt,r.cap,lenO o⟩/\ObjRel (look G h) R r o w:=fun{i o} ho=>by obtain⟨r,hr⟩:=W.res ⟨o,ho⟩;exact⟨r,hr,zU ho hr,W.obj i o r ho hr⟩
 unfold yT at j;split at j
 ·cases j;rcases hv with⟨hn,ad,cap,rfl,_⟩|⟨b,off,cap,cs,T,fr,seg,tl,rfl,_,hcap,hR,hd,hC⟩
  ·have hl:l=[]:=nF.1 hn;subst hl;exact⟨ad,cap,rfl,uAm _,Lib.BytesIn.nil _ _ _⟩
  ·have hC:seg=l.map u8V:=hC;subst hC;exact⟨some ⟨b,off,none⟩,cap,rfl,hcap,fun _=>⟨b,off,rfl,fun i hi=>zb7 (W.ro _ _ hR) hd i hi⟩⟩
 ·cases j;exact⟨none,0,hv,mH _,Lib.BytesIn.nil _ _ _⟩
 ·split at j
  ·rename_i i T Y ho;cases j;obtain⟨r,e1,e2,S⟩:=live ho;obtain⟨f,J,h2,h3⟩:=hv;rw[e2]at J;cases J;simp only[ObjRel]at S;rcases S with⟨I,g2,g3,Z⟩|⟨I,g2,g3,cs,tl,fr,Z,g5,g6,g7⟩
   ·obtain⟨_,O⟩:=h2 I;have hl:l=[]:=nF.1 g2;subst hl;exact⟨none,0,O,mH _,Lib.BytesIn.nil _ _ _⟩
   ·have O:=h3 I;subst g5;exact⟨some ⟨r.b,0,none⟩,r.cap,O,g3,fun _=>⟨r.b,0,rfl,fun i hi=>zb7 (tl:=tl) Z (by rw[nS]) i hi⟩⟩
  ·cases j
 ·split at j
  ·rename_i i T Y ho;cases j;obtain⟨r,e1,e2,S⟩:=live ho;obtain⟨f,J,h2,_,O⟩:=hv;rw[e2]at J;cases J;simp only[ObjRel]at S;rcases S with⟨I,_⟩|⟨I,g2,g3,cs,tl,fr,Z,g5,g6,g7⟩
   ·rw[I]at h2;cases h2
   ·subst g5;exact⟨some ⟨r.b,0,none⟩,r.cap,O,g3,fun _=>⟨r.b,0,rfl,fun i hi=>zb7 (tl:=tl) Z (by rw[nS]) i hi⟩⟩
  ·cases j
 ·rename_i i H U;split at j
  ·rename_i T Y ho;cases j;obtain⟨r,e1,e2,S⟩:=live ho;obtain⟨f,J,p1,p2,p3,aa,cap,O,p4,p5⟩:=hv;rw[e2]at J;cases J;have p3:H+U<=(Y.length:Int):=p3;have B:(Vc.sub Y H (H+U)).length=U.toNat:=by unfold Vc.sub;rw[mP,mI];omega
   by_cases h0:0<U
   ·obtain⟨q1,rfl⟩:=p5 h0;simp only[ObjRel]at S;rcases S with⟨I,_⟩|⟨I,g2,g3,cs,tl,fr,Z,g5,g6,g7⟩
    ·rw[I]at q1;cases q1
    ·subst g5;refine⟨some ⟨r.b,H.toNat*1,none⟩,cap,by rw[B];exact O,by rw[B];exact p4,fun _=>⟨r.b,H.toNat*1,rfl,fun i hi=>?_⟩⟩;refine zb7 (tl:=(Y.drop (H+U).toNat).map u8V++tl) Z ?_ i hi;rw[mX,List.toList_toArray,nT (by rw[nN];omega),<-uAw,zd5 Y (a:=H.toNat) (b:=(H+U).toNat) oM oM,nU,mR];rfl
   ·have hz:U=0:=oM
    subst hz;have hnil:Vc.sub Y H (H+0)=[]:=nF.1 B;rw[hnil];exact⟨aa,cap,O,uAm _,Lib.BytesIn.nil _ _ _⟩
  ·cases j
 ·cases j
def zEu{X B:Type}(f:FuncId)(d:List AV->Heap->Option X)(s:X->Option B)(e:B->AV):Con:=
 Con6.c ⟨f,Heap×X,B,fun a h=>match d a h with
  |some x=>some (h,x)
  |none=>none,fun x=>s x.2,fun x r=>⟨e r,x.1⟩⟩
theorem zqJ{P:Program}{GP:Ro->Prop}{X B:Type}{f:FuncId}{d:List AV->Heap->Option X}{s:X->Option B}{e:B->AV}(he:Z2 P f=true)(vB:B->Value)(hv:∀r L R,Rel L R (e r) (vB r))
  (h4:∀j h x r R G w vs,d j h=some x->s x=some r->GP R->WRel R G h w->RelL (look G h) R j vs->Calls P f vs.toArray w fun Z w'=>Z=.returned (vB r)/\Keeps [] w w'):SoundC P GP (zEu f d s e):=by
 intro j h y r J hs;have J:(match d j h with
  |some x=>some (h,x)
  |none=>none)=some y:=J
 split at J
 ·rename_i x hx;cases J;refine⟨jk he,fun R G w vs S W I=>?_⟩;refine(h4 j h x r R G w vs hx hs S W I).mono fun Z w' ⟨U,k⟩=>?_
  have Y:∀b,b<w.heap.size->w'.heap[b]? =w.heap[b]? :=fun b H=>k.block b H sI
  refine⟨vB r,R,G,U,⟨W.len,fun i o q ho O=>(W.obj i o q ho O).stable (fun b H=>Y b ((W.obj i o q ho O).lt b H)) (fun _ _ h=>h) (fun _ _ _ h=>h),W.sep,W.sepR,fun b o H=>?_⟩,
   ⟨k.mono sI,fun _ _ h=>h,fun b h=>.inl h,fun i q b hl O H=>.inl (zJ.2 ⟨i,q,hl,O,H⟩),fun i _ _=>rfl,mH _⟩,hv r _ _⟩
  rw[Y b (ja (W.ro b o H))];exact W.ro b o H
 ·cases J
def d2R(j:List AV)(h:Heap):Option (uAU×uAU):=match j with
 |[a,b]=>match yT h (un a),yT h (un b)with
  |some x,some y=>some (x,y)
  |_,_=>none
 |_=>none
theorem zD3{j:List AV}{h:Heap}{x:uAU×uAU}(e:d2R j h=some x){R:Ro}{G:List Res}{w:World}{vs:List Value}(W:WRel R G h w)(J:RelL (look G h) R j vs):
  ∃B I H c2,vs=[.slice B x.1.length I,.slice H x.2.length c2]/\x.1.length<=I/\x.2.length<=c2/\Lib.BytesIn w B x.1.length (rowNums x.1)/\Lib.BytesIn w H x.2.length (rowNums x.2):=by
 unfold d2R at e;split at e
 ·split at e
  ·rename_i a b y z O h2;cases e;obtain⟨u,us,rfl,r1,u',S,rfl,Y,rfl⟩:=J;obtain⟨B,I,rfl,Z,g2⟩:=Ky W O (Zw r1);obtain⟨H,c2,rfl,U,g4⟩:=Ky W h2 (Zw Y);exact⟨B,I,H,c2,rfl,Z,U,g2,g4⟩
  ·cases e
 ·cases e
def zu2{X:Type}(f:FuncId)(d:List AV->Heap->Option X)(s:X->Option AO)(e:Nat->AV):Con:=
 Con6.c ⟨f,Heap×X,AO,fun a h=>match d a h with
  |some x=>some (h,x)
  |none=>none,fun x=>s x.2,fun x ao=>⟨e x.1.length,x.1++[some ao]⟩⟩
theorem X1{P:Program}{GP:Ro->Prop}{X:Type}{f:FuncId}{d:List AV->Heap->Option X}{s:X->Option AO}{e:Nat->AV}(he:Proofs.Enters P f)
  (h4:∀j h x ao R G w vs,d j h=some x->s x=some ao->GP R->WRel R G h w->RelL (look G h) R j vs->Calls P f vs.toArray w fun e' w'=>∃V r,e'=.returned V/\Keeps [] w w'/\(∀b∈r.fp,w.heap.size<=b)/\
   (∀L',ObjRel L' R r ao w')/\∀L',L' h.length=some ⟨r.b,r.virt,r.cap,lenO ao⟩->Rel L' R (e h.length) V):SoundC P GP (zu2 f d s e):=by
 intro j h y ao O hs;have O:(match d j h with
  |some x=>some (h,x)
  |none=>none)=some y:=O
 split at O
 ·rename_i x hx;cases O;refine⟨he,fun R G w vs U W H=>?_⟩;refine(h4 j h x ao R G w vs hx hs U W H).mono fun e' w' ⟨V,r,Z,hk,S,ho,hv⟩=>?_
  let c:Base:=⟨R,look G h,fpsAll G h,w,h.length⟩
  have F:Fit c 0 R G ⟨[],h⟩ {tmps:= #[],defers:=[]} w:=by refine⟨W,⟨Keeps.refl _ _,fun _ _ h=>h,fun b h=>.inl h,fun i r b hi hr hb=>.inl (zJ.2 ⟨i,r,hi,hr,hb⟩),fun _ _ _=>rfl,mH _⟩,fun t=>?_,rfl,rfl⟩;exact trivial
  obtain⟨G1,F1,B,J⟩:=F.wide 1;have Y:h.length<(wide h 1).length:=by rw[J];exact uAt _
  obtain⟨F2,hl,_⟩:=F1.fresh (i:=h.length) (ao:=ao) (r:=r) Y (mH _) (B _ (mH _)) hk S fun L' _=>ho L'
  have I:(wide h 1).set h.length (some (show AO from ao))=h++[some (show AO from ao)]:=by rw[zfv];simp
  rw[I]at F2 hl;exact⟨V,R,G1.set h.length r,Z,F2.wrel,F2.since,hv _ hl⟩
 ·cases O
def ztV:AV->Bool
 |.int _ _=>true
 |.bool _=>true
 |.str _=>true
 |_=>false
theorem zv2{L L':Lk}{R R':Ro}{v:AV}{V:Value}(h:ztV v=true)(j:Rel L R v V):Rel L' R' v V:=by cases v<;>first|exact j|cases h
theorem zbP{L L':Lk}{R R':Ro}:∀{l:List AV}{vs:List Value},l.all ztV=true->RelL L R l vs->RelL L' R' l vs
 |[],_,_,h=>h
 |v::r,vs,h,⟨u,us,h1,h2,h3⟩=>by rw[List.all_cons,mF]at h;exact⟨u,us,h1,zv2 h.1 h2,zbP h.2 h3⟩
theorem zu6{P:Program}{GP:Ro->Prop}{F:FuncId->List AV->Heap->Option Out}{g:FuncId}{l:List (AV×AV)}(hF:SoundC P GP (zDq F g))(hp:((l.map (·.1)).all ztV&&(l.map (·.2)).all ztV)=true)
  (h:F g [] []=some ⟨.map 0,[some (.mp l)]⟩):SoundC P GP (zu2 g (fun a _=>match a with
   |[]=>some ()
   |_=>none) (fun _=>some (.mp l)) .map):=by
 obtain⟨hE,hC⟩:=hF [] [] ([],[]) ⟨.map 0,[some (.mp l)]⟩ rfl h;rw[mF]at hp;refine X1 hE fun Y hh x ao R G w vs S hs I W hr=>?_
 cases hs;have H:vs=[]:=by
  split at S
  ·exact hr
  ·cases S
 subst H;have W0:WRel R [] [] w:=⟨rfl,fun i o r ho _=>(by simp[hget]at ho),fun i j ri rj _ hi=>(by obtain⟨o,ho⟩:=hi;simp[hget]at ho),fun i r hi=>(by obtain⟨o,ho⟩:=hi;simp[hget]at ho),W.ro⟩
 refine(hC R [] w [] I W0 rfl).mono fun e' w' ⟨V,R',G',he,W',S',O⟩=>?_
 have W':WRel R' G' [some (.mp l)] w':=W';have S':Since ⟨R,look [] [],fpsAll [] [],w,0⟩ R' G' [some (.mp l)] w':=S';have O:Rel (look G' [some (.mp l)]) R' (.map 0) V:=O;have U:fpsAll [] []=[]:=rfl;have B:hget [some (AO.mp l)] 0=some (.mp l):=rfl;obtain⟨r,J⟩:=W'.res ⟨_,B⟩;obtain⟨g1,g2,g3,g4,es,ck,g5,g6,g7⟩:=W'.obj 0 _ r B J;obtain⟨f,Z,f2,f3⟩:=O;rw[zU B J]at Z;cases Z;refine⟨V,r,he,by have:=S'.keeps;rwa [U]at this,fun b hb=>?_,fun L'=>⟨g1,g2,g3,g4,es,ck,g5,zbP hp.1 g6,zbP hp.2 g7⟩,fun L' hL=>⟨_,hL,f2,f3⟩⟩;rcases S'.own 0 r b ⟨_,B⟩ J hb with h|h
 ·rw[show(Base.mk R (look [] []) (fpsAll [] []) w 0).X=[]from U]at h;cases h
 ·exact h
section
section
variable {E : Env} {T : Type} {r : T}
theorem zkL{j:Bool}{nid f:Nat}{B:List AV}{st:St}{k:AV->St->Option T}(h:yv E j nid f B st k=some r):
  ∃v st',k v st'=some r/\∀(T':Type)(I:AV->St->Option T'),yv E j nid f B st I=I v st':=by
 unfold yv at h⊢;simp only[]at h⊢;split at h
 ·rename_i J hv h1 h2 h3;obtain⟨o,H,_,Y⟩:=J7 h;split at H
  ·rename_i v ho S U O Z;split at H
   ·rename_i hg;exact⟨_,_,H,fun T' I=>by rw[Y T'];simp only[S,U,O,Z,hg]⟩
   ·rename_i hg;split at H
    ·cases H
    ·refine⟨_,_,H,fun T' I=>?_⟩;rw[Y T'];simp only[S,U,O,Z]
  ·cases H
 ·cases h
theorem zfG{j:Bool}{nid:Nat}{op:Op}{st:St}{k:AV->St->Option T}(h:opK E j nid op st k=some r):
  ∃v st',k v st'=some r/\∀(T':Type)(B:AV->St->Option T'),opK E j nid op st B=B v st':=by
 cases j with
 |true=>obtain⟨v,u,H,_,_,I⟩:=zlT h;exact⟨v,_,H,fun T' B=>I st (fun _ _=>rfl) (fun _=>rfl) (fun _ _ _=>rfl) T' B⟩
 |false=>
  have J:∀{op:Op},(∀(T:Type)(k:AV->St->Option T),opK E false nid op st k=opK E true nid op st k)->opK E false nid op st k=some r->
    ∃v st',k v st'=some r/\∀(T':Type)(B:AV->St->Option T'),opK E false nid op st B=B v st':=by
   intro op e h;rw[e]at h;obtain⟨v,u,H,_,_,I⟩:=zlT h;exact⟨v,_,H,fun T' B=>by rw[e];exact I st (fun _ _=>rfl) (fun _=>rfl) (fun _ _ _=>rfl) T' B⟩
  cases op with
  |call c=>
   obtain⟨callee,O,ats⟩:=c;cases callee with
   |value f=>
    simp only[opK]at h⊢;split at h
    ·exact zkL h
    ·obtain⟨g,H,I⟩:=zed h;obtain⟨v,st',U,Y⟩:=zkL H;exact⟨v,st',U,fun T' B=>by rw[I,Y]⟩
    ·cases h
   |builtin b=>
    cases b with
    |append=>
     simp only[opK]at h⊢;split at h
     ·split at h
      ·rename_i S cc o Z;cases S with
       |false=>rw[cond_false]at h;exact⟨_,_,h,fun _ _=>by rw[cond_false]⟩
       |true=>rw[cond_true]at h;obtain⟨rfl,h⟩:=zm h;exact⟨_,_,h,fun _ _=>by rw[cond_true];rfl⟩
      ·split at h
       ·obtain⟨hc,h⟩:=zm h;exact⟨_,_,h,fun _ _=>by rw[hc];rfl⟩
       ·obtain⟨hc,h⟩:=zm h;exact⟨_,_,h,fun _ _=>by rw[hc];rfl⟩
       ·cases h
     ·cases h
    |_=>exact J (fun _ _=>rfl) h
   |_=>exact J (fun _ _=>rfl) h
  |range t x=>
   simp only[opK]at h⊢;split at h
   ·exact⟨_,_,h,fun _ _=>rfl⟩
   ·cases h
  |next x s=>
   cases s with
   |false=>exact J (fun _ _=>rfl) h
   |true=>
    simp only[opK]at h⊢;split at h
    ·rename_i i e1 e2;split at h
     ·rename_i l pos Z;cases hb:Nat.blt pos l.length with
      |true=>rw[hb]at h;exact⟨_,_,h,fun _ _=>by rw[cond_true]⟩
      |false=>rw[hb]at h;exact⟨_,_,h,fun _ _=>by rw[cond_false]⟩
     ·cases h
    ·cases h
  |_=>exact J (fun _ _=>rfl) h
theorem qO{j:Bool}{all:List Oper}:∀{l:List Oper}{nid:Nat}{st:St}{k:St->Option T},j1 E j all l nid st k=some r->
  ∃st',k st'=some r/\∀(T':Type)(H:St->Option T'),j1 E j all l nid st H=H st'
 |[],_,st,_,h=>⟨st,h,fun _ _=>rfl⟩
 |o::l,nid,st,k,h=>by
  simp only[j1]at h⊢;split at h
  ·cases h
  ·have U:∀{O:St},opK E j nid o.op O (fun v st'=>j1 E j all l (nid+rsv o) ⟨putO o.dst v st'.s,st'.h⟩ k)=some r->∃st',k st'=some r/\
     ∀(T':Type)(H:St->Option T'),opK E j nid o.op O (fun v st'=>j1 E j all l (nid+rsv o) ⟨putO o.dst v st'.s,st'.h⟩ H)=H st':=by
    intro O h;obtain⟨v,st1,Y,Z⟩:=zfG h;obtain⟨B,I,J⟩:=qO Y;exact⟨B,I,fun T' H=>by rw[Z,J]⟩
   split at h
   ·rename_i hg;obtain⟨B,I,J⟩:=U h;exact⟨B,I,fun T' H=>J T' H⟩
   ·rename_i g S hg;split at h
    ·rename_i t ht;split at h
     ·rename_i b hb1 hb2;cases b<;>cases S<;>simp only[cond_true,cond_false]at h⊢
      ·obtain⟨B,I,J⟩:=U h;exact⟨B,I,fun T' H=>J T' H⟩
      ·obtain⟨B,I,J⟩:=qO h;exact⟨B,I,fun T' H=>J T' H⟩
      ·obtain⟨B,I,J⟩:=qO h;exact⟨B,I,fun T' H=>J T' H⟩
      ·obtain⟨B,I,J⟩:=U h;exact⟨B,I,fun T' H=>J T' H⟩
     ·obtain⟨B,I,J⟩:=qO h;exact⟨B,I,fun T' H=>J T' H⟩
     ·cases h
    ·cases h
theorem zmK{ops:List Oper}{st:St}{k:St->Option T}(h:VN E ops st k=some r):∃st',k st'=some r/\∀(T':Type)(j:St->Option T'),VN E ops st j=j st':=qO h
theorem zij{all:List Oper}{base:Nat}:∀{fl:List (Oper×Nat)}{st:St}{k:St->Option T},zmM E all base fl st k=some r->
  ∃st',k st'=some r/\∀(T':Type)(H:St->Option T'),zmM E all base fl st H=H st'
 |[],st,_,h=>⟨st,h,fun _ _=>rfl⟩
 |(o,j)::fl,st,k,h=>by
  simp only[zmM]at h⊢;split at h
  ·obtain⟨v,U,O,S⟩:=zfG h;obtain⟨B,I,J⟩:=zij O;exact⟨B,I,fun T' H=>by rw[S];exact J T' H⟩
  ·obtain⟨B,I,J⟩:=zij h;exact⟨B,I,fun T' H=>J T' H⟩
  ·cases h
theorem zpK{all:List Oper}{base:Nat}{st:St}:∀{fl:List (Oper×Nat)}{k:Option T},zfs E all base fl st k=some r->k=some r/\∀(T':Type)(B:Option T'),zfs E all base fl st B=B
 |[],_,h=>⟨h,fun _ _=>rfl⟩
 |(o,j)::fl,k,h=>by
  simp only[zfs]at h⊢;split at h
  ·cases h
  ·have J:∀{v:AV},cond (zeW o.dst v st) (zfs E all base fl st k) none=some r->k=some r/\∀(T':Type)(B:Option T'),cond (zeW o.dst v st) (zfs E all base fl st B) none=B:=by
    intro v h;cases hd:zeW o.dst v st with
    |false=>rw[hd]at h;cases h
    |true=>rw[hd,cond_true]at h;obtain⟨H,I⟩:=zpK h;exact⟨H,fun T' B=>by rw[cond_true];exact I T' B⟩
   split at h
   ·obtain⟨v,U,H,I⟩:=zfG h;obtain⟨O,S⟩:=J H;exact⟨O,fun T' B=>by rw[I];exact S T' B⟩
   ·exact J h
   ·cases h
theorem zyr{all:List Oper}{base:Nat}{o:Oper}{i:Nat}{st:St}{k:St->Option T}(h:zmP E all base o i st k=some r):∃st',k st'=some r/\∀(T':Type)(j:St->Option T'),zmP E all base o i st j=j st':=by
 unfold zmP at h⊢;split at h
 ·obtain⟨v,I,B,H⟩:=zfG h;exact⟨_,B,fun T' j=>H T' _⟩
 ·exact⟨_,h,fun _ _=>rfl⟩
 ·cases h
theorem zhb{all:List Oper}{base:Nat}{B:List (List Nat)}{fs I:List (Oper×Nat)}{pa:Option Nat}{st:St}{k:St->Option T}(h:za6 E all base B fs I pa st k=some r):
  ∃st',k st'=some r/\∀(T':Type)(j:St->Option T'),za6 E all base B fs I pa st j=j st':=by
 unfold za6 at h⊢;obtain⟨H,J,S⟩:=zij h;obtain⟨O,U⟩:=zpK J;exact⟨H,O,fun T' j=>by rw[S];exact U T' _⟩
theorem ztW{all:List Oper}{base:Nat}{B:List (List Nat)}{fs:List (Oper×Nat)}:∀{H:List (Oper×Nat)}{pa:Option Nat}{st:St}{k:St->Option T},evG E all base B fs H pa st k=some r->
  ∃st',k st'=some r/\∀(T':Type)(j:St->Option T'),evG E all base B fs H pa st j=j st'
 |[],_,_,_,h=>zhb h
 |(o,i)::H,pa,st,k,h=>by simp only[evG]at h⊢;obtain⟨st1,J,Y⟩:=zhb h;obtain⟨O,U,h4⟩:=zyr J;obtain⟨I,Z,S⟩:=ztW U;exact⟨I,Z,fun T' j=>by rw[Y,h4];exact S T' j⟩
theorem Jn{ops:List Oper}{st:St}{k:St->Option T}(h:yp E ops st k=some r):∃st',k st'=some r/\∀(T':Type)(j:St->Option T'),yp E ops st j=j st':=by
 unfold yp at h⊢;simp only[]at h⊢;split at h
 ·exact ztW h
 ·cases h
theorem zrO{ops:List Oper}{st:St}{k:St->Option T}(h:zd0 E ops st (yp E ops st k) k=some r):∃st',k st'=some r/\∀(T':Type)(j:St->Option T'),zd0 E ops st (yp E ops st j) j=j st':=by
 unfold zd0 at h⊢;split at h
 ·rename_i Y;obtain⟨J,B,O⟩:=qO h;split at B
  ·rename_i H;exact⟨J,B,fun T' j=>by rw[O];simp only[H]⟩
  ·rename_i H;obtain⟨I,U,S⟩:=Jn B;exact⟨I,U,fun T' j=>by rw[O];simp only[H];exact S T' j⟩
 ·exact Jn h
theorem VP{m:Nat}{ops:List Oper}{st:St}{k:St->Option T}(h:Z1 E m ops st (yp E ops st k) k=some r):∃st',k st'=some r/\∀(T':Type)(j:St->Option T'),Z1 E m ops st (yp E ops st j) j=j st':=by
 unfold Z1 at h⊢;split at h
 ·rename_i Z;obtain⟨Y,B,U⟩:=qO h;split at B
  ·rename_i I;obtain⟨H,O,J⟩:=qO B;exact⟨H,O,fun T' j=>by rw[U];simp only[I];exact J T' j⟩
  ·rename_i I;obtain⟨S,O,J⟩:=Jn B;exact⟨S,O,fun T' j=>by rw[U];simp only[I];exact J T' j⟩
 ·exact Jn h
theorem zpf{ops:List Oper}{st:St}{k:St->Option T}(h:Y9 E ops st k=some r):∃st',k st'=some r/\∀(T':Type)(j:St->Option T'),Y9 E ops st j=j st':=by
 unfold Y9 at h⊢;split at h
 ·exact VP h
 ·split at h
  ·exact VP h
  ·split at h
   ·exact VP h
   ·split at h
    ·exact Jn h
    ·exact zrO h
theorem zcS{ops:List Oper}{st:St}{k:St->Option T}(h:YI E ops st k=some r):∃st',k st'=some r/\∀(T':Type)(j:St->Option T'),YI E ops st j=j st':=by
 unfold YI at h⊢;split at h
 ·rename_i s B;exact⟨s,h,fun _ _=>rfl⟩
 ·split at h
  ·rename_i s B;exact⟨s,h,fun _ _=>rfl⟩
  ·cases h
theorem zmN{ops:List Oper}{st:St}{k:St->Option T}(h:Xh E ops st k=some r):∃st',k st'=some r/\∀(T':Type)(j:St->Option T'),Xh E ops st j=j st':=by
 unfold Xh at h⊢;split at h
 ·exact zcS h
 ·split at h
  ·exact zpf h
  ·exact zcS h
inductive Lv where
 |normal
 |exit (i:Nat)
 |ret
def Cont.at{R:Type}(K:Cont R):Lv->St->Option R
 |.normal=>K.normal
 |.exit i=>K.exits i
 |.ret=>K.ret
theorem zB2{m q:Nat}:∀(O:Code){T:Type}{r:T}{st:St}{K:Cont T},evR E m q O st K=some r->
  ∃e st',K.at e st'=some r/\∀(T':Type)(K':Cont T'),evR E m q O st K'=K'.at e st':=by
 intro O;induction O with
 |skip=>intro T r st K h;exact⟨.normal,st,h,fun _ _=>rfl⟩
 |label l=>intro T r st K h;exact⟨.normal,st,h,fun _ _=>rfl⟩
 |ret=>intro T r st K h;exact⟨.ret,st,h,fun _ _=>rfl⟩
 |exit i=>intro T r st K h;exact⟨.exit i,st,h,fun _ _=>rfl⟩
 |region id ops draw=>
  intro T r st K h;simp only[evR]at h⊢;cases draw with
  |false=>obtain⟨B,H,I⟩:=zmK h;exact⟨.normal,B,H,fun T' K'=>I T' K'.normal⟩
  |true=>obtain⟨B,H,I⟩:=zmN h;exact⟨.normal,B,H,fun T' K'=>I T' K'.normal⟩
 |scope body ih=>intro T r st K h;simp only[evR]at h⊢;exact ih h
 |goto l=>intro T r st K h;simp only[evR]at h;cases h
 |refuse why=>intro T r st K h;simp only[evR]at h;cases h
 |rangeFunc f ps asg body ih1 ih2=>intro T r st K h;simp only[evR]at h;cases h
 |seq x y Z Y=>
  intro T r st K h;simp only[evR]at h⊢;obtain⟨e,B,H,I⟩:=Z h;cases e with
  |normal=>obtain⟨e,U,h3,h4⟩:=Y H;exact⟨e,U,h3,fun T' K'=>by rw[I];exact h4 T' K'⟩
  |exit i=>exact⟨.exit i,B,H,fun T' K'=>by rw[I];rfl⟩
  |ret=>exact⟨.ret,B,H,fun T' K'=>by rw[I];rfl⟩
 |cond b x y Z Y=>
  intro T r st K h;simp only[evR]at h⊢;split at h
  ·rename_i t ht;cases t with
   |true=>exact Z h
   |false=>exact Y h
  ·cases h
 |block i x ih=>
  intro T r st K h;simp only[evR]at h⊢;obtain⟨e,B,H,I⟩:=ih h;cases e with
  |normal=>exact⟨.normal,B,H,fun T' K'=>by rw[I];rfl⟩
  |ret=>exact⟨.ret,B,H,fun T' K'=>by rw[I];rfl⟩
  |exit j=>
   have H:(qe i K).exits j B=some r:=H;simp only[qe]at H;cases hb:Nat.beq j i with
   |true=>rw[hb]at H;exact⟨.normal,B,H,fun T' K'=>by rw[I];show(qe i K').exits j B=_;simp only[qe,hb];rfl⟩
   |false=>rw[hb]at H;exact⟨.exit j,B,H,fun T' K'=>by rw[I];show(qe i K').exits j B=_;simp only[qe,hb];rfl⟩
 |loop x ih=>
  intro T r st K h;simp only[evR]at h⊢;have key:∀n{st:St},qj (fun J st'=>evR E m q x st' ⟨fun S=>match zaE m S with
   |some s=>J s
   |none=>none,K.exits,K.ret⟩) n st=some r->∃e st',K.at e st'=some r/\∀(T':Type)(K':Cont T'),qj (fun J st'=>evR E m q x st' ⟨fun S=>match zaE m S with
   |some s=>J s
   |none=>none,K'.exits,K'.ret⟩) n st=K'.at e st':=by
   intro n;induction n with
   |zero=>intro st h;cases h
   |succ n ihn=>
    intro st h;obtain⟨e,B,H,I⟩:=ih h;cases e with
    |normal=>
     have H:(match zaE m B with
      |some s=>qj _ n s
      |none=>none)=some r:=H
     split at H
     ·rename_i s hs;obtain⟨e,U,h3,h4⟩:=ihn H;refine⟨e,U,h3,fun T' K'=>?_⟩;rw[<-h4 T' K'];refine(I T' _).trans ?_;show(match zaE m B with
       |some s=>qj _ n s
       |none=>none)=_
      rw[hs]
     ·cases H
    |exit i=>exact⟨.exit i,B,H,fun T' K'=>I T' _⟩
    |ret=>exact⟨.ret,B,H,fun T' K'=>I T' _⟩
  exact key q h
end
structure RunT where
 D:FuncId->List AV->Heap->Option Out
 G:(T:Type)->FuncId->List AV->Heap->(Out->Option T)->Option T
 ok:∀(T:Type)(f:FuncId)(a:List AV)(h:Heap)(k:Out->Option T)(r:T),G T f a h k=some r->∃o,D f a h=some o/\k o=some r/\∀(T':Type)(k':Out->Option T'),G T' f a h k'=k' o
def inC(F:RunT)(g:FuncId):Con:=⟨g,List AV×Heap,Out,fun a h=>some (a,h),fun x=>F.D g x.1 x.2,fun _ o=>o,fun T x k=>F.G T g x.1 x.2 k,fun T x k r h=>F.ok T g x.1 x.2 k r h⟩
def RunT.nil:RunT:=⟨fun _ _ _=>none,fun _ _ _ _ _=>none,fun _ _ _ _ _ _ h=>by cases h⟩
noncomputable def zet(P:Program)(gl:Glob)(Γ:List Con)(fs:List FuncId)(q:Nat)(F:RunT)(T:Type)(f:FuncId)(j:List AV)(h:Heap)(k:Out->Option T):Option T:=match P.funcs[f]? with
 |some fn=>match fn.body,Z2 P f&&Nat.ble j.length fn.ntmps with
  |some B,true=>evR ⟨P,gl,Γ++fs.map (inC F),1,fn.ntmps,[],fun _ h=>by cases h⟩ h.length q B ⟨zel 0 j,h⟩
   ⟨fun st=>bnd (zar P h.length fn.results.toList st) k,fun _ _=>none,fun st=>bnd (zar P h.length fn.results.toList st) k⟩
  |_,_=>none
 |none=>none
theorem zwu{P:Program}{gl:Glob}{Γ:List Con}{fs:List FuncId}{q:Nat}{F:RunT}{T:Type}{f:FuncId}{a:List AV}{h:Heap}{k:Out->Option T}{r:T}(e:zet P gl Γ fs q F T f a h k=some r):
  ∃o,zet P gl Γ fs q F Out f a h some=some o/\k o=some r/\∀(T':Type)(B:Out->Option T'),zet P gl Γ fs q F T' f a h B=B o:=by
 unfold zet at e⊢;split at e
 ·rename_i fn hf;split at e
  ·rename_i j hb Z;obtain⟨S,J,I,O⟩:=zB2 j e;have key:∀{x:Option Out},x=zar P h.length fn.results.toList J->bnd x k=some r->(∀(T':Type)(B:Out->Option T'),(evR ⟨P,gl,Γ++fs.map (inC F),1,fn.ntmps,[],fun _ h=>by cases h⟩ h.length q j ⟨zel 0 a,h⟩
     ⟨fun st=>bnd (zar P h.length fn.results.toList st) B,fun _ _=>none,fun st=>bnd (zar P h.length fn.results.toList st) B⟩)=bnd x B)->∃o,(evR ⟨P,gl,Γ++fs.map (inC F),1,fn.ntmps,[],fun _ h=>by cases h⟩ h.length q j ⟨zel 0 a,h⟩
     ⟨fun st=>bnd (zar P h.length fn.results.toList st) some,fun _ _=>none,fun st=>bnd (zar P h.length fn.results.toList st) some⟩)=some o/\k o=some r/\∀(T':Type)(B:Out->Option T'),(evR ⟨P,gl,Γ++fs.map (inC F),1,fn.ntmps,[],fun _ h=>by cases h⟩ h.length q j ⟨zel 0 a,h⟩
     ⟨fun st=>bnd (zar P h.length fn.results.toList st) B,fun _ _=>none,fun st=>bnd (zar P h.length fn.results.toList st) B⟩)=B o:=by
    intro x _ U H;obtain⟨o,rfl,Y⟩:=zc8 U;exact⟨o,H _ _,Y,fun T' B=>H _ _⟩
   cases S with
   |normal=>exact key rfl I fun T' B=>O T' _
   |ret=>exact key rfl I fun T' B=>O T' _
   |exit i=>cases I
  ·cases e
 ·cases e
noncomputable def zEr(P:Program)(gl:Glob)(Γ:List Con)(fs:List FuncId)(q:Nat)(F:RunT):RunT:=⟨fun f a h=>zet P gl Γ fs q F Out f a h some,zet P gl Γ fs q F,fun _ _ _ _ _ _ h=>zwu h⟩
noncomputable def zAn(P:Program)(gl:Glob)(Γ:List Con)(fs:List FuncId)(q:Nat):Nat->RunT
 |0=>RunT.nil
 |n+1=>zEr P gl Γ fs q (zAn P gl Γ fs q n)
theorem zko{P:Program}{GP:Ro->Prop}{gl:Glob}(b:Bas P GP gl){Γ:List Con}(hΓ:∀C∈Γ,SoundC P GP C)(fs:List FuncId)(q:Nat):∀n g,SoundC P GP (inC (zAn P gl Γ fs q n) g)
 |0,g=>fun _ _ _ _ _ S=>by cases S
 |n+1,g=>by
  intro j h x r hd S;have hx:(j,h)=x:=Option.some.inj hd;subst hx;have B:zet P gl Γ fs q (zAn P gl Γ fs q n) Out g j h some=some r:=S;unfold zet at B;split at B
  ·rename_i fn hf;split at B
   ·rename_i J Z hen;obtain⟨h1,h2⟩:=Bool.and_eq_true_iff.1 hen;refine⟨jk h1,fun R G w vs O W H=>?_⟩;have hlen:vs.length=j.length:=H.length.symm;have hkn':=mQ h2;refine calls_of_wp hf Z ?_;let c:Base:=⟨R,look G h,fpsAll G h,w,h.length⟩
    let a0:Act:={tmps:=vs.toArray++Array.replicate (fn.ntmps-vs.toArray.size) undef,defers:=[]}
    have F0:Fit c fn.ntmps R G ⟨zel 0 j,h⟩ a0 w:=by
     refine⟨W,⟨Keeps.refl _ _,fun _ _ h=>h,fun b h=>.inl h,fun i r b hi hr Z=>.inl (zJ.2 ⟨i,r,hi,hr,Z⟩),fun _ _ _=>rfl,mH _⟩,zdc H fun p v hp=>?_,rfl,?_⟩
     ·have Y:=(mG.1 hp).1;rw[uAn];show(vs.toArray++Array.replicate (fn.ntmps-vs.toArray.size) undef).getD p undef=v;have h4:=(mG.1 hp).2;simp[Array.getElem?_append,Y];exact h4
     ·show(vs.toArray++Array.replicate (fn.ntmps-vs.toArray.size) undef).size=fn.ntmps;simp;omega
    have ret:∀st R' G'(a:Act) w',bnd (zar P c.m fn.results.toList st) some=some r->Fit c fn.ntmps R' G' st a w'->GP R'->a.defers=[]/\∃v,(results fn a.tmps).run P w'=.ok v w'/\
      (∃V R' G',Ending.returned v=.returned V/\WRel R' G' r.h w'/\Since c R' G' r.h w'/\Rel (look G' r.h) R' r.v V):=by
     intro st R' G' a w' h F _;obtain⟨o,e1,e2⟩:=zc8 h;cases e2;obtain⟨V,G2,g1,g2,g3,g4⟩:=zmE F e1;exact⟨F.defers,V,g1,V,R',G2,rfl,g2,g3,g4⟩
    refine zyo (E:=⟨P,gl,Γ++fs.map (inC (zAn P gl Γ fs q n)),1,fn.ntmps,[],fun _ h=>by cases h⟩) (c:=c) b.hmx (fun C I=>?_) b.hgl b.hst J
     ⟨fun st=>bnd (zar P c.m fn.results.toList st) some,fun _ _=>none,fun st=>bnd (zar P c.m fn.results.toList st) some⟩ _ _ R G a0 w
     ⟨fun st R' G' a w' h F U=>ret st R' G' a w' h F U,(fun i st R' G' a w' h _ _=>by cases h),fun st R' G' a w' h F U=>ret st R' G' a w' h F U⟩ B F0 O
    rcases mU.1 I with I|I
    ·exact hΓ C I
    ·obtain⟨p,_,rfl⟩:=uAb.1 I;exact zko b hΓ fs q n p
   ·cases B
  ·cases B
noncomputable def kin{P:Program}{GP:Ro->Prop}{gl:Glob}(b:Bas P GP gl)(Γ:List (Kn P GP))(fs:List FuncId)(q n:Nat)(g:FuncId):Kn P GP:=kn (zko b (zmy Γ) fs q n g)
noncomputable def zEG{P:Program}{GP:Ro->Prop}{gl:Glob}(b:Bas P GP gl)(Γ:List (Kn P GP))(fs:List FuncId)(q n:Nat):List (Kn P GP):=Γ++fs.map (kin b Γ fs q n)
end
structure RunRow where
 g:FuncId
 Γ:List Con
 fs:List FuncId
 qs:List FuncId
def RunRow.good(r:RunRow):Bool:=r.qs.all fun f=>!memN f r.fs&&r.Γ.all fun C=>!Nat.beq C.f f
def RunRow.of(g:FuncId):List RunRow->RunRow
 |[]=>⟨0,[],[],[]⟩
 |r::l=>cond (Nat.beq r.g g) r (RunRow.of g l)
theorem RunRow.of_good(g:FuncId):∀{l:List RunRow},l.all RunRow.good=true->(RunRow.of g l).good=true
 |[],_=>rfl
 |r::l,h=>by
  rw[List.all_cons,mF]at h;unfold RunRow.of;cases Nat.beq r.g g with
  |true=>exact h.1
  |false=>exact RunRow.of_good g h.2
theorem RunRow.of_all(g:FuncId){p:RunRow->Bool}(j:p ⟨0,[],[],[]⟩=true):∀{l:List RunRow},l.all p=true->p (RunRow.of g l)=true
 |[],_=>j
 |r::l,h=>by
  rw[List.all_cons,mF]at h;unfold RunRow.of;cases Nat.beq r.g g with
  |true=>exact h.1
  |false=>exact RunRow.of_all g j h.2
structure Mm where
 g:FuncId
 args:List AV
 h:Heap
 o:Out
def Mm.con(m:Mm):Con:=Con6.c ⟨m.g,Unit,Unit,fun a hh=>cond (qK a m.args&&Yl hh m.h) (some ()) none,fun _=>some (),fun _ _=>m.o⟩
theorem Mm.quiet{m:Mm}(h:Yl m.o.h m.h=true):QuietC m.con:=fun j hh x r B _=>by
 have B:cond (qK j m.args&&Yl hh m.h) (some ()) none=some x:=B;cases hb:qK j m.args&&Yl hh m.h with
 |false=>rw[hb]at B;cases B
 |true=>rw[mF]at hb;show m.o.h=hh;rw[Yk _ _ hb.2,Yk _ _ h]
def RunRow.quietAll(j:List FuncId)(r:RunRow):Bool:=r.qs.all fun f=>memN f j
def Mm.good(j:List FuncId)(m:Mm):Bool:=!memN m.g j||Yl m.o.h m.h
def RunRow.runW(l:List RunRow)(H:List FuncId)(ns:FuncId->Bool)(q:Nat)(h:l.all RunRow.good=true)(U:l.all (RunRow.quietAll H)=true)(S:List Mm)(h2:S.all (Mm.good H)=true):RunW:=
 ⟨fun g=>S.map Mm.con++(RunRow.of g l).Γ,fun g=>(RunRow.of g l).fs,fun g=>(RunRow.of g l).qs,ns,q,fun g f O=>by
 have:=mT.1 (RunRow.of_good g h) f (zG.1 O);rw[mF]at this;obtain⟨J,Z⟩:=this;refine⟨fun B=>?_,fun C j e=>?_⟩
 ·rw[zG.2 B]at J;cases J
 ·rcases mU.1 j with j|j
  ·obtain⟨m,B,rfl⟩:=uAb.1 j;have I:=mT.1 h2 m B;have Y:=mT.1 (RunRow.of_all (p:=RunRow.quietAll H) g rfl U) f (zG.1 O);have e:m.g=f:=e;unfold Mm.good at I;rw[e,Y]at I;exact Mm.quiet I
  ·have:=mT.1 Z C j;rw[e,Nat.beq_refl]at this;cases this⟩
theorem RunRow.sound{P:Program}{GP:Ro->Prop}{l:List RunRow}(h:∀r∈l,∀C∈r.Γ,SoundC P GP C)(g:FuncId):∀C∈(RunRow.of g l).Γ,SoundC P GP C:=by
 induction l with
 |nil=>intro C H;cases H
 |cons r l B=>
  unfold RunRow.of;cases Nat.beq r.g g with
  |true=>exact h r nR
  |false=>exact B fun r j=>h r (nE _ j)
theorem Mm.sound{P:Program}{GP:Ro->Prop}{gl:Glob}(b:Bas P GP gl){l:List RunRow}{H:List FuncId}{Y:FuncId->Bool}{q:Nat}{h:l.all RunRow.good=true}{S:l.all (RunRow.quietAll H)=true}{J:List Mm}{U:J.all (Mm.good H)=true}
  (hl:∀r∈l,∀C∈r.Γ,SoundC P GP C) (hm:∀m∈J,SoundC P GP (Mm.con m)) (m:Mm) (n:Nat) (Z:zfj P gl (RunRow.runW l H Y q h S J U) n m.g m.args m.h=some m.o):SoundC P GP m.con:=by
 have key:=Ym b (RunRow.runW l H Y q h S J U) (fun g C B=>by
  rcases mU.1 B with B|B
  ·obtain⟨m,O,rfl⟩:=uAb.1 B;exact hm m O
  ·exact RunRow.sound hl g C B) n m.g
 intro j hh x r I hs;have I:cond (qK j m.args&&Yl hh m.h) (some ()) none=some x:=I;cases hb:qK j m.args&&Yl hh m.h with
 |false=>rw[hb]at I;cases I
 |true=>rw[mF]at hb;have e1:=yb _ _ hb.1;have e2:=Yk _ _ hb.2;subst e1 e2;exact key m.args m.h (m.args,m.h) m.o rfl Z
structure RowN where
 g:FuncId
 i:List Nat
 fs:List FuncId
 qs:List FuncId
def zor(l:List Con):List Nat->List Con
 |[]=>[]
 |i::r=>match l[i]? with
  |some c=>c::zor l r
  |none=>zor l r
theorem zdK{l:List Con}:∀{i:List Nat}{C:Con},C∈zor l i->C∈l
 |[],_,h=>by cases h
 |i::r,C,h=>by
  unfold zor at h;split at h
  ·rename_i c hc;rcases nB.1 h with h|h
   ·rw[h];exact nX hc
   ·exact zdK h
  ·exact zdK h
def RowN.rows(l:List Con)(r:List RowN):List RunRow:=r.map fun r=>⟨r.g,zor l r.i,r.fs,r.qs⟩
theorem RowN.sound{P:Program}{GP:Ro->Prop}{l:List Con}{r:List RowN}(h:∀C∈l,SoundC P GP C):∀x∈RowN.rows l r,∀C∈x.Γ,SoundC P GP C:=fun x B C j=>by obtain⟨y,_,rfl⟩:=uAb.1 B;exact h C (zdK j)
end Go.Am
