/-
  A part of the proof of the laws.
-/
import Derived.Test.YtgehgjniceckfaaGreatDoorAm26
import Derived.Lib.SlBytesRowKit
import Derived.Test.YtgehgjniceckfaaGreatDoorCr
section
namespace Go.Am
open Go Go.RowKit Go.Vc
def rowNums(l:List UInt8):List Int:=l.map fun c=>(c.toNat:Int)
theorem qh(l:List UInt8):(rowNums l).length=l.length:=by simp[rowNums]
theorem yo(l:List UInt8):Lib.bytesOf (rowNums l)=l:=by unfold Lib.bytesOf rowNums;rw[List.map_map];exact (List.map_congr_left fun c _=>by simp).trans (List.map_id l)
theorem QF(l:List UInt8):∀x∈rowNums l,0≤x∧x<256:=by intro x hx;obtain⟨c,_,rfl⟩:=List.mem_map.1 hx;have:=c.toNat_lt;omega
theorem Xk{w:World}{b off:Nat}{cs:Array Value}{T:TypeId}{fr:Nat×Nat}{l:List UInt8}{tl:List Value}(hb:w.heap[b]? =some (.cells cs T fr))(hd:cs.toList.drop off=l.map u8V++tl)(i:Nat)(hi:i<l.length):
  w.cell? ⟨b,off+i,none⟩=some (.int .u8 ((rowNums l).getD i 0)):=by
 have h1:cs[off+i]? =some (u8V l[i]):=by have:=congrArg (·[i]?) hd;simp only[List.getElem?_drop]at this;rw[List.getElem?_append_left (by simpa using hi),List.getElem?_map,List.getElem?_eq_getElem hi]at this;simpa using this
 have h2:(rowNums l).getD i 0=(l[i].toNat:Int):=by rw[List.getD_eq_getElem?_getD];unfold rowNums;rw[List.getElem?_map,List.getElem?_eq_getElem hi];rfl
 rw[h2];simp[World.cell?,hb,h1,u8V]
theorem Zn{R:Ro}{G:List Res}{h:Heap}{w:World}(W:WRel R G h w){v:AV}{V:Value}{l:List UInt8}(hb:yx h v=some l)(hv:Rel (look G h) R v V):
  ∃p cap,V=.slice p l.length cap∧l.length≤cap∧Lib.BytesIn w p l.length (rowNums l):=by
 have live:∀{i:Nat}{o:AO},hget h i=some o→∃r,G[i]? =some r∧look G h i=some ⟨r.b,r.virt,r.cap,lenO o⟩∧ObjRel (look G h) R r o w:=fun{i o} ho=>by obtain⟨r,hr⟩:=W.res ⟨o,ho⟩;exact⟨r,hr,z8 ho hr,W.obj i o r ho hr⟩
 unfold yx at hb;split at hb
 ·cases hb;rcases hv with⟨hn,ad,cap,rfl,_⟩|⟨b,off,cap,cs,T,fr,seg,tl,rfl,_,hcap,hR,hd,hC⟩
  ·have hl:l=[]:=List.length_eq_zero_iff.1 hn;subst hl;exact⟨ad,cap,rfl,Nat.zero_le _,Lib.BytesIn.nil _ _ _⟩
  ·have hC:seg=l.map u8V:=hC;subst hC;exact⟨some ⟨b,off,none⟩,cap,rfl,hcap,fun _=>⟨b,off,rfl,fun i hi=>Xk (W.ro _ _ hR) hd i hi⟩⟩
 ·cases hb;exact⟨none,0,hv,Nat.le_refl _,Lib.BytesIn.nil _ _ _⟩
 ·split at hb
  ·rename_i i T l' ho;cases hb;obtain⟨r,e1,e2,e3⟩:=live ho;obtain⟨f,h1,h2,h3⟩:=hv;rw[e2]at h1;cases h1;simp only[ObjRel]at e3;rcases e3 with⟨g1,g2,g3,g4⟩|⟨g1,g2,g3,cs,tl,fr,g4,g5,g6,g7⟩
   ·obtain⟨_,hV⟩:=h2 g1;have hl:l=[]:=List.length_eq_zero_iff.1 g2;subst hl;exact⟨none,0,hV,Nat.le_refl _,Lib.BytesIn.nil _ _ _⟩
   ·have hV:=h3 g1;subst g5;exact⟨some ⟨r.b,0,none⟩,r.cap,hV,g3,fun _=>⟨r.b,0,rfl,fun i hi=>Xk (tl:=tl) g4 (by rw[List.drop_zero]) i hi⟩⟩
  ·cases hb
 ·split at hb
  ·rename_i i T l' ho;cases hb;obtain⟨r,e1,e2,e3⟩:=live ho;obtain⟨f,h1,h2,_,hV⟩:=hv;rw[e2]at h1;cases h1;simp only[ObjRel]at e3;rcases e3 with⟨g1,_⟩|⟨g1,g2,g3,cs,tl,fr,g4,g5,g6,g7⟩
   ·rw[g1]at h2;cases h2
   ·subst g5;exact⟨some ⟨r.b,0,none⟩,r.cap,hV,g3,fun _=>⟨r.b,0,rfl,fun i hi=>Xk (tl:=tl) g4 (by rw[List.drop_zero]) i hi⟩⟩
  ·cases hb
 ·rename_i i c0 n0;split at hb
  ·rename_i T l' ho;cases hb;obtain⟨r,e1,e2,e3⟩:=live ho;obtain⟨f,h1,p1,p2,p3,aa,cap,hV,p4,p5⟩:=hv;rw[e2]at h1;cases h1;have p3:c0+n0≤(l'.length:Int):=p3;have hlen:(Vc.sub l' c0 (c0+n0)).length=n0.toNat:=by unfold Vc.sub;rw[List.length_drop,List.length_take];omega
   by_cases h0:0<n0
   ·obtain⟨q1,rfl⟩:=p5 h0;simp only[ObjRel]at e3;rcases e3 with⟨g1,_⟩|⟨g1,g2,g3,cs,tl,fr,g4,g5,g6,g7⟩
    ·rw[g1]at q1;cases q1
    ·subst g5;refine⟨some ⟨r.b,c0.toNat*1,none⟩,cap,by rw[hlen];exact hV,by rw[hlen];exact p4,fun _=>⟨r.b,c0.toNat*1,rfl,fun i hi=>?_⟩⟩;refine Xk (tl:=(l'.drop (c0+n0).toNat).map u8V++tl) g4 ?_ i hi;rw[Nat.mul_one,List.toList_toArray,List.drop_append_of_le_length (by rw[List.length_map];omega),←List.map_drop,V7 l' (a:=c0.toNat) (b:=(c0+n0).toNat) (by omega) (by omega),List.map_append,List.append_assoc];rfl
   ·have hz:n0=0:=by omega
    subst hz;have hnil:Vc.sub l' c0 (c0+0)=[]:=List.length_eq_zero_iff.1 hlen;rw[hnil];exact⟨aa,cap,hV,Nat.zero_le _,Lib.BytesIn.nil _ _ _⟩
  ·cases hb
 ·cases hb
def ztD{X B:Type}(f:FuncId)(d:List AV→Heap→Option X)(s:X→Option B)(e:B→AV):Con:=
 Con6.c ⟨f,Heap×X,B,fun a h=>match d a h with
  |some x=>some (h,x)
  |none=>none,fun x=>s x.2,fun x r=>⟨e r,x.1⟩⟩
theorem QT{P:Program}{GP:Ro→Prop}{X B:Type}{f:FuncId}{d:List AV→Heap→Option X}{s:X→Option B}{e:B→AV}(he:qU P f=true)(vB:B→Value)(hv:∀r L R,Rel L R (e r) (vB r))
  (h4:∀args h x r R G w vs,d args h=some x→s x=some r→GP R→WRel R G h w→RelL (look G h) R args vs→Calls P f vs.toArray w fun e' w'=>e'=.returned (vB r)∧Keeps [] w w'):SoundC P GP (ztD f d s e):=by
 intro args h y r hd hs;have hd:(match d args h with
  |some x=>some (h,x)
  |none=>none)=some y:=hd
 split at hd
 ·rename_i x hx;cases hd;refine⟨jv he,fun R G w vs hGP W hargs=>?_⟩;refine(h4 args h x r R G w vs hx hs hGP W hargs).mono fun e' w' ⟨he',k⟩=>?_
  have kb:∀b,b<w.heap.size→w'.heap[b]? =w.heap[b]? :=fun b hb=>k.block b hb (by simp)
  refine⟨vB r,R,G,he',⟨W.len,fun i o q ho hg=>(W.obj i o q ho hg).stable (fun b hb=>kb b ((W.obj i o q ho hg).lt b hb)) (fun _ _ h=>h) (fun _ _ _ h=>h),W.sep,W.sepR,fun b o hb=>?_⟩,
   ⟨k.mono (by simp),fun _ _ h=>h,fun b h=>.inl h,fun i q b hl hg hb=>.inl (jo.2 ⟨i,q,hl,hg,hb⟩),fun i _ _=>rfl,Nat.le_refl _⟩,hv r _ _⟩
  rw[kb b (je (W.ro b o hb))];exact W.ro b o hb
 ·cases hd
def d2R(args:List AV)(h:Heap):Option (List UInt8×List UInt8):=match args with
 |[a,b]=>match yx h (un a),yx h (un b)with
  |some x,some y=>some (x,y)
  |_,_=>none
 |_=>none
def d1R(args:List AV)(h:Heap):Option (List UInt8×Int):=match args with
 |[a,.int .u8 n]=>match yx h (un a)with
  |some x=>some (x,n)
  |none=>none
 |_=>none
theorem zqn{args:List AV}{h:Heap}{x:List UInt8×List UInt8}(e:d2R args h=some x){R:Ro}{G:List Res}{w:World}{vs:List Value}(W:WRel R G h w)(hr:RelL (look G h) R args vs):
  ∃p1 c1 p2 c2,vs=[.slice p1 x.1.length c1,.slice p2 x.2.length c2]∧x.1.length≤c1∧x.2.length≤c2∧Lib.BytesIn w p1 x.1.length (rowNums x.1)∧Lib.BytesIn w p2 x.2.length (rowNums x.2):=by
 unfold d2R at e;split at e
 ·split at e
  ·rename_i a b y z h1 h2;cases e;obtain⟨u,us,rfl,r1,u',us',rfl,r2,rfl⟩:=hr;obtain⟨p1,c1,rfl,g1,g2⟩:=Zn W h1 (qf r1);obtain⟨p2,c2,rfl,g3,g4⟩:=Zn W h2 (qf r2);exact⟨p1,c1,p2,c2,rfl,g1,g3,g2,g4⟩
  ·cases e
 ·cases e
theorem zvW{args:List AV}{h:Heap}{x:List UInt8×Int}(e:d1R args h=some x){R:Ro}{G:List Res}{w:World}{vs:List Value}(W:WRel R G h w)(hr:RelL (look G h) R args vs):
  ∃p1 c1,vs=[.slice p1 x.1.length c1,.int .u8 x.2]∧x.1.length≤c1∧Lib.BytesIn w p1 x.1.length (rowNums x.1):=by
 unfold d1R at e;split at e
 ·split at e
  ·rename_i a n _ y h1;cases e;obtain⟨u,us,rfl,r1,u',us',rfl,r2,rfl⟩:=hr;obtain⟨p1,c1,rfl,g1,g2⟩:=Zn W h1 (qf r1);have r2:u'=.int .u8 n:=r2;subst r2;exact⟨p1,c1,rfl,g1,g2⟩
  ·cases e
 ·cases e
end Go.Am
end
section
namespace Go.Am
open Go Go.RowKit Go.Vc
def zl2{X:Type}(f:FuncId)(d:List AV→Heap→Option X)(s:X→Option AO)(e:Nat→AV):Con:=
 Con6.c ⟨f,Heap×X,AO,fun a h=>match d a h with
  |some x=>some (h,x)
  |none=>none,fun x=>s x.2,fun x ao=>⟨e x.1.length,x.1++[some ao]⟩⟩
theorem JH{P:Program}{GP:Ro→Prop}{X:Type}{f:FuncId}{d:List AV→Heap→Option X}{s:X→Option AO}{e:Nat→AV}(he:Proofs.Enters P f)
  (h4:∀args h x ao R G w vs,d args h=some x→s x=some ao→GP R→WRel R G h w→RelL (look G h) R args vs→Calls P f vs.toArray w fun e' w'=>∃V r,e'=.returned V∧Keeps [] w w'∧(∀b∈r.fp,w.heap.size≤b)∧
   (∀L',ObjRel L' R r ao w')∧∀L',L' h.length=some ⟨r.b,r.virt,r.cap,lenO ao⟩→Rel L' R (e h.length) V):SoundC P GP (zl2 f d s e):=by
 intro args h y ao hd hs;have hd:(match d args h with
  |some x=>some (h,x)
  |none=>none)=some y:=hd
 split at hd
 ·rename_i x hx;cases hd;refine⟨he,fun R G w vs hGP W hargs=>?_⟩;refine(h4 args h x ao R G w vs hx hs hGP W hargs).mono fun e' w' ⟨V,r,he',hk,hfp,ho,hv⟩=>?_
  let c:Base:=⟨R,look G h,fpsAll G h,w,h.length⟩
  have F:Fit c 0 R G ⟨[],h⟩ {tmps:= #[],defers:=[]} w:=by refine⟨W,⟨Keeps.refl _ _,fun _ _ h=>h,fun b h=>.inl h,fun i r b hi hr hb=>.inl (jo.2 ⟨i,r,hi,hr,hb⟩),fun _ _ _=>rfl,Nat.le_refl _⟩,fun t=>?_,rfl,rfl⟩;exact trivial
  obtain⟨G1,F1,hfree,hlen⟩:=F.wide 1;have hlt:h.length<(wide h 1).length:=by rw[hlen];exact Nat.lt_succ_self _
  obtain⟨F2,hl,_⟩:=F1.fresh (i:=h.length) (ao:=ao) (r:=r) hlt (Nat.le_refl _) (hfree _ (Nat.le_refl _)) hk hfp fun L' _=>ho L'
  have hset:(wide h 1).set h.length (some (show AO from ao))=h++[some (show AO from ao)]:=by rw[ze2];simp
  rw[hset]at F2 hl;exact⟨V,R,G1.set h.length r,he',F2.wrel,F2.since,hv _ hl⟩
 ·cases hd
def zlr:AV→Bool
 |.int _ _=>true
 |.bool _=>true
 |.str _=>true
 |_=>false
theorem zmR{L L':Lk}{R R':Ro}{v:AV}{V:Value}(h:zlr v=true)(hr:Rel L R v V):Rel L' R' v V:=by cases v<;>first|exact hr|cases h
theorem Xj{L L':Lk}{R R':Ro}:∀{l:List AV}{vs:List Value},l.all zlr=true→RelL L R l vs→RelL L' R' l vs
 |[],_,_,h=>h
 |v::r,vs,h,⟨u,us,h1,h2,h3⟩=>by rw[List.all_cons,Bool.and_eq_true]at h;exact⟨u,us,h1,zmR h.1 h2,Xj h.2 h3⟩
theorem zl5{P:Program}{GP:Ro→Prop}{F:FuncId→List AV→Heap→Option Out}{g:FuncId}{l:List (AV×AV)}(hF:SoundC P GP (zvg F g))(hp:((l.map (·.1)).all zlr&&(l.map (·.2)).all zlr)=true)
  (h:F g [] []=some ⟨.map 0,[some (.mp l)]⟩):SoundC P GP (zl2 g (fun a _=>match a with
   |[]=>some ()
   |_=>none) (fun _=>some (.mp l)) .map):=by
 obtain⟨hE,hC⟩:=hF [] [] ([],[]) ⟨.map 0,[some (.mp l)]⟩ rfl h;rw[Bool.and_eq_true]at hp;refine JH hE fun args hh x ao R G w vs hd hs hGP W hr=>?_
 cases hs;have hvs:vs=[]:=by
  split at hd
  ·exact hr
  ·cases hd
 subst hvs;have W0:WRel R [] [] w:=⟨rfl,fun i o r ho _=>(by simp[hget]at ho),fun i j ri rj _ hi=>(by obtain⟨o,ho⟩:=hi;simp[hget]at ho),fun i r hi=>(by obtain⟨o,ho⟩:=hi;simp[hget]at ho),W.ro⟩
 refine(hC R [] w [] hGP W0 rfl).mono fun e' w' ⟨V,R',G',he,W',S',hV⟩=>?_
 have W':WRel R' G' [some (.mp l)] w':=W';have S':Since ⟨R,look [] [],fpsAll [] [],w,0⟩ R' G' [some (.mp l)] w':=S';have hV:Rel (look G' [some (.mp l)]) R' (.map 0) V:=hV;have hx:fpsAll [] []=[]:=rfl;have hl:hget [some (AO.mp l)] 0=some (.mp l):=rfl;obtain⟨r,hG⟩:=W'.res ⟨_,hl⟩;obtain⟨g1,g2,g3,g4,es,ck,g5,g6,g7⟩:=W'.obj 0 _ r hl hG;obtain⟨f,f1,f2,f3⟩:=hV;rw[z8 hl hG]at f1;cases f1;refine⟨V,r,he,by have:=S'.keeps;rwa [hx]at this,fun b hb=>?_,fun L'=>⟨g1,g2,g3,g4,es,ck,g5,Xj hp.1 g6,Xj hp.2 g7⟩,fun L' hL=>⟨_,hL,f2,f3⟩⟩;rcases S'.own 0 r b ⟨_,hl⟩ hG hb with h|h
 ·rw[show(Base.mk R (look [] []) (fpsAll [] []) w 0).X=[]from hx]at h;cases h
 ·exact h
end Go.Am
end
section
namespace Go.Am
open Go Go.RowKit Go.Vc
section
variable {E : Env} {T : Type} {r : T}
theorem zeR{strict:Bool}{nid f:Nat}{args:List AV}{st:St}{k:AV→St→Option T}(h:yn E strict nid f args st k=some r):
  ∃v st',k v st'=some r∧∀(T':Type)(k':AV→St→Option T'),yn E strict nid f args st k'=k' v st':=by
 unfold yn at h⊢;simp only[]at h⊢;split at h
 ·rename_i args' hv h1 h2 h3;obtain⟨o,h4,_,h5⟩:=Zt h;split at h4
  ·rename_i v ho g1 g2 g3 g4;split at h4
   ·rename_i hg;exact⟨_,_,h4,fun T' k'=>by rw[h5 T'];simp only[g1,g2,g3,g4,hg]⟩
   ·rename_i hg;split at h4
    ·cases h4
    ·refine⟨_,_,h4,fun T' k'=>?_⟩;rw[h5 T'];simp only[g1,g2,g3,g4]
  ·cases h4
 ·cases h
theorem zaj{strict:Bool}{nid:Nat}{op:Op}{st:St}{k:AV→St→Option T}(h:opK E strict nid op st k=some r):
  ∃v st',k v st'=some r∧∀(T':Type)(k':AV→St→Option T'),opK E strict nid op st k'=k' v st':=by
 cases strict with
 |true=>obtain⟨v,u,h1,_,_,h2⟩:=zfP h;exact⟨v,_,h1,fun T' k'=>h2 st (fun _ _=>rfl) (fun _=>rfl) (fun _ _ _=>rfl) T' k'⟩
 |false=>
  have tt:∀{op:Op},(∀(T:Type)(k:AV→St→Option T),opK E false nid op st k=opK E true nid op st k)→opK E false nid op st k=some r→
    ∃v st',k v st'=some r∧∀(T':Type)(k':AV→St→Option T'),opK E false nid op st k'=k' v st':=by
   intro op e h;rw[e]at h;obtain⟨v,u,h1,_,_,h2⟩:=zfP h;exact⟨v,_,h1,fun T' k'=>by rw[e];exact h2 st (fun _ _=>rfl) (fun _=>rfl) (fun _ _ _=>rfl) T' k'⟩
  cases op with
  |call c=>
   obtain⟨callee,args,ats⟩:=c;cases callee with
   |value f=>
    simp only[opK]at h⊢;split at h
    ·exact zeR h
    ·obtain⟨g,h1,h2⟩:=Wa h;obtain⟨v,st',h3,h4⟩:=zeR h1;exact⟨v,st',h3,fun T' k'=>by rw[h2,h4]⟩
    ·cases h
   |builtin b=>
    cases b with
    |append=>
     simp only[opK]at h⊢;split at h
     ·split at h
      ·rename_i bb cc o hg;cases bb with
       |false=>rw[cond_false]at h;exact⟨_,_,h,fun _ _=>by rw[cond_false]⟩
       |true=>rw[cond_true]at h;obtain⟨rfl,h⟩:=zp h;exact⟨_,_,h,fun _ _=>by rw[cond_true];rfl⟩
      ·split at h
       ·obtain⟨hc,h⟩:=zp h;exact⟨_,_,h,fun _ _=>by rw[hc];rfl⟩
       ·obtain⟨hc,h⟩:=zp h;exact⟨_,_,h,fun _ _=>by rw[hc];rfl⟩
       ·cases h
     ·cases h
    |_=>exact tt (fun _ _=>rfl) h
   |_=>exact tt (fun _ _=>rfl) h
  |range t x=>
   simp only[opK]at h⊢;split at h
   ·exact⟨_,_,h,fun _ _=>rfl⟩
   ·cases h
  |next x s=>
   cases s with
   |false=>exact tt (fun _ _=>rfl) h
   |true=>
    simp only[opK]at h⊢;split at h
    ·rename_i i e1 e2;split at h
     ·rename_i l pos hg;cases hb:Nat.blt pos l.length with
      |true=>rw[hb]at h;exact⟨_,_,h,fun _ _=>by rw[cond_true]⟩
      |false=>rw[hb]at h;exact⟨_,_,h,fun _ _=>by rw[cond_false]⟩
     ·cases h
    ·cases h
  |_=>exact tt (fun _ _=>rfl) h
theorem ql{strict:Bool}{all:List Oper}:∀{l:List Oper}{nid:Nat}{st:St}{k:St→Option T},jZ E strict all l nid st k=some r→
  ∃st',k st'=some r∧∀(T':Type)(k':St→Option T'),jZ E strict all l nid st k'=k' st'
 |[],_,st,_,h=>⟨st,h,fun _ _=>rfl⟩
 |o::l,nid,st,k,h=>by
  simp only[jZ]at h⊢;split at h
  ·cases h
  ·have go:∀{st0:St},opK E strict nid o.op st0 (fun v st'=>jZ E strict all l (nid+rsv o) ⟨putO o.dst v st'.s,st'.h⟩ k)=some r→∃st',k st'=some r∧
     ∀(T':Type)(k':St→Option T'),opK E strict nid o.op st0 (fun v st'=>jZ E strict all l (nid+rsv o) ⟨putO o.dst v st'.s,st'.h⟩ k')=k' st':=by
    intro st0 h;obtain⟨v,st1,h1,h2⟩:=zaj h;obtain⟨st2,h3,h4⟩:=ql h1;exact⟨st2,h3,fun T' k'=>by rw[h2,h4]⟩
   split at h
   ·rename_i hg;obtain⟨st2,h3,h4⟩:=go h;exact⟨st2,h3,fun T' k'=>h4 T' k'⟩
   ·rename_i g want hg;split at h
    ·rename_i t ht;split at h
     ·rename_i b hb1 hb2;cases b<;>cases want<;>simp only[cond_true,cond_false]at h⊢
      ·obtain⟨st2,h3,h4⟩:=go h;exact⟨st2,h3,fun T' k'=>h4 T' k'⟩
      ·obtain⟨st2,h3,h4⟩:=ql h;exact⟨st2,h3,fun T' k'=>h4 T' k'⟩
      ·obtain⟨st2,h3,h4⟩:=ql h;exact⟨st2,h3,fun T' k'=>h4 T' k'⟩
      ·obtain⟨st2,h3,h4⟩:=go h;exact⟨st2,h3,fun T' k'=>h4 T' k'⟩
     ·obtain⟨st2,h3,h4⟩:=ql h;exact⟨st2,h3,fun T' k'=>h4 T' k'⟩
     ·cases h
    ·cases h
theorem zgA{ops:List Oper}{st:St}{k:St→Option T}(h:YU E ops st k=some r):∃st',k st'=some r∧∀(T':Type)(k':St→Option T'),YU E ops st k'=k' st':=ql h
theorem zdp{all:List Oper}{base:Nat}:∀{fl:List (Oper×Nat)}{st:St}{k:St→Option T},zgC E all base fl st k=some r→
  ∃st',k st'=some r∧∀(T':Type)(k':St→Option T'),zgC E all base fl st k'=k' st'
 |[],st,_,h=>⟨st,h,fun _ _=>rfl⟩
 |(o,j)::fl,st,k,h=>by
  simp only[zgC]at h⊢;split at h
  ·obtain⟨v,st1,h1,h2⟩:=zaj h;obtain⟨st2,h3,h4⟩:=zdp h1;exact⟨st2,h3,fun T' k'=>by rw[h2];exact h4 T' k'⟩
  ·obtain⟨st2,h3,h4⟩:=zdp h;exact⟨st2,h3,fun T' k'=>h4 T' k'⟩
  ·cases h
theorem zic{all:List Oper}{base:Nat}{st:St}:∀{fl:List (Oper×Nat)}{k:Option T},WU E all base fl st k=some r→k=some r∧∀(T':Type)(k':Option T'),WU E all base fl st k'=k'
 |[],_,h=>⟨h,fun _ _=>rfl⟩
 |(o,j)::fl,k,h=>by
  simp only[WU]at h⊢;split at h
  ·cases h
  ·have go:∀{v:AV},cond (WI o.dst v st) (WU E all base fl st k) none=some r→k=some r∧∀(T':Type)(k':Option T'),cond (WI o.dst v st) (WU E all base fl st k') none=k':=by
    intro v h;cases hd:WI o.dst v st with
    |false=>rw[hd]at h;cases h
    |true=>rw[hd,cond_true]at h;obtain⟨h1,h2⟩:=zic h;exact⟨h1,fun T' k'=>by rw[cond_true];exact h2 T' k'⟩
   split at h
   ·obtain⟨v,st1,h1,h2⟩:=zaj h;obtain⟨h3,h4⟩:=go h1;exact⟨h3,fun T' k'=>by rw[h2];exact h4 T' k'⟩
   ·exact go h
   ·cases h
theorem zqg{all:List Oper}{base:Nat}{o:Oper}{i:Nat}{st:St}{k:St→Option T}(h:zgF E all base o i st k=some r):∃st',k st'=some r∧∀(T':Type)(k':St→Option T'),zgF E all base o i st k'=k' st':=by
 unfold zgF at h⊢;split at h
 ·obtain⟨v,st1,h1,h2⟩:=zaj h;exact⟨_,h1,fun T' k'=>h2 T' _⟩
 ·exact⟨_,h,fun _ _=>rfl⟩
 ·cases h
theorem zb1{all:List Oper}{base:Nat}{B:List (List Nat)}{fs az:List (Oper×Nat)}{pa:Option Nat}{st:St}{k:St→Option T}(h:QR E all base B fs az pa st k=some r):
  ∃st',k st'=some r∧∀(T':Type)(k':St→Option T'),QR E all base B fs az pa st k'=k' st':=by
 unfold QR at h⊢;obtain⟨st1,h1,h2⟩:=zdp h;obtain⟨h3,h4⟩:=zic h1;exact⟨st1,h3,fun T' k'=>by rw[h2];exact h4 T' _⟩
theorem zls{all:List Oper}{base:Nat}{B:List (List Nat)}{fs:List (Oper×Nat)}:∀{az:List (Oper×Nat)}{pa:Option Nat}{st:St}{k:St→Option T},evG E all base B fs az pa st k=some r→
  ∃st',k st'=some r∧∀(T':Type)(k':St→Option T'),evG E all base B fs az pa st k'=k' st'
 |[],_,_,_,h=>zb1 h
 |(o,i)::az,pa,st,k,h=>by simp only[evG]at h⊢;obtain⟨st1,h1,h2⟩:=zb1 h;obtain⟨st2,h3,h4⟩:=zqg h1;obtain⟨st3,h5,h6⟩:=zls h3;exact⟨st3,h5,fun T' k'=>by rw[h2,h4];exact h6 T' k'⟩
theorem Za{ops:List Oper}{st:St}{k:St→Option T}(h:yk E ops st k=some r):∃st',k st'=some r∧∀(T':Type)(k':St→Option T'),yk E ops st k'=k' st':=by
 unfold yk at h⊢;simp only[]at h⊢;split at h
 ·exact zls h
 ·cases h
theorem zjP{ops:List Oper}{st:St}{k:St→Option T}(h:V5 E ops st (yk E ops st k) k=some r):∃st',k st'=some r∧∀(T':Type)(k':St→Option T'),V5 E ops st (yk E ops st k') k'=k' st':=by
 unfold V5 at h⊢;split at h
 ·rename_i h0;obtain⟨st1,h1,h2⟩:=ql h;split at h1
  ·rename_i h3;exact⟨st1,h1,fun T' k'=>by rw[h2];simp only[h3]⟩
  ·rename_i h3;obtain⟨st4,h4,h5⟩:=Za h1;exact⟨st4,h4,fun T' k'=>by rw[h2];simp only[h3];exact h5 T' k'⟩
 ·exact Za h
theorem YW{m:Nat}{ops:List Oper}{st:St}{k:St→Option T}(h:qS E m ops st (yk E ops st k) k=some r):∃st',k st'=some r∧∀(T':Type)(k':St→Option T'),qS E m ops st (yk E ops st k') k'=k' st':=by
 unfold qS at h⊢;split at h
 ·rename_i h0;obtain⟨st1,h1,h2⟩:=ql h;split at h1
  ·rename_i h3;obtain⟨st2,h4,h5⟩:=ql h1;exact⟨st2,h4,fun T' k'=>by rw[h2];simp only[h3];exact h5 T' k'⟩
  ·rename_i h3;obtain⟨st4,h4,h5⟩:=Za h1;exact⟨st4,h4,fun T' k'=>by rw[h2];simp only[h3];exact h5 T' k'⟩
 ·exact Za h
theorem zh3{ops:List Oper}{st:St}{k:St→Option T}(h:Z8 E ops st k=some r):∃st',k st'=some r∧∀(T':Type)(k':St→Option T'),Z8 E ops st k'=k' st':=by
 unfold Z8 at h⊢;split at h
 ·exact YW h
 ·split at h
  ·exact YW h
  ·split at h
   ·exact YW h
   ·split at h
    ·exact Za h
    ·exact zjP h
theorem K0{ops:List Oper}{st:St}{k:St→Option T}(h:ZU E ops st k=some r):∃st',k st'=some r∧∀(T':Type)(k':St→Option T'),ZU E ops st k'=k' st':=by
 unfold ZU at h⊢;split at h
 ·rename_i s hs;exact⟨s,h,fun _ _=>rfl⟩
 ·split at h
  ·rename_i s hs;exact⟨s,h,fun _ _=>rfl⟩
  ·cases h
theorem zgD{ops:List Oper}{st:St}{k:St→Option T}(h:Jx E ops st k=some r):∃st',k st'=some r∧∀(T':Type)(k':St→Option T'),Jx E ops st k'=k' st':=by
 unfold Jx at h⊢;split at h
 ·exact K0 h
 ·split at h
  ·exact zh3 h
  ·exact K0 h
inductive Lv where
 |normal
 |exit (i:Nat)
 |ret
def Cont.at{R:Type}(K:Cont R):Lv→St→Option R
 |.normal=>K.normal
 |.exit i=>K.exits i
 |.ret=>K.ret
theorem zug{m q:Nat}:∀(code:Code){T:Type}{r:T}{st:St}{K:Cont T},evR E m q code st K=some r→
  ∃e st',K.at e st'=some r∧∀(T':Type)(K':Cont T'),evR E m q code st K'=K'.at e st':=by
 intro code;induction code with
 |skip=>intro T r st K h;exact⟨.normal,st,h,fun _ _=>rfl⟩
 |label l=>intro T r st K h;exact⟨.normal,st,h,fun _ _=>rfl⟩
 |ret=>intro T r st K h;exact⟨.ret,st,h,fun _ _=>rfl⟩
 |exit i=>intro T r st K h;exact⟨.exit i,st,h,fun _ _=>rfl⟩
 |region id ops draw=>
  intro T r st K h;simp only[evR]at h⊢;cases draw with
  |false=>obtain⟨st1,h1,h2⟩:=zgA h;exact⟨.normal,st1,h1,fun T' K'=>h2 T' K'.normal⟩
  |true=>obtain⟨st1,h1,h2⟩:=zgD h;exact⟨.normal,st1,h1,fun T' K'=>h2 T' K'.normal⟩
 |scope body ih=>intro T r st K h;simp only[evR]at h⊢;exact ih h
 |goto l=>intro T r st K h;simp only[evR]at h;cases h
 |refuse why=>intro T r st K h;simp only[evR]at h;cases h
 |rangeFunc f ps asg body ih1 ih2=>intro T r st K h;simp only[evR]at h;cases h
 |seq x y ihx ihy=>
  intro T r st K h;simp only[evR]at h⊢;obtain⟨e,st1,h1,h2⟩:=ihx h;cases e with
  |normal=>obtain⟨e,st2,h3,h4⟩:=ihy h1;exact⟨e,st2,h3,fun T' K'=>by rw[h2];exact h4 T' K'⟩
  |exit i=>exact⟨.exit i,st1,h1,fun T' K'=>by rw[h2];rfl⟩
  |ret=>exact⟨.ret,st1,h1,fun T' K'=>by rw[h2];rfl⟩
 |cond b x y ihx ihy=>
  intro T r st K h;simp only[evR]at h⊢;split at h
  ·rename_i t ht;cases t with
   |true=>exact ihx h
   |false=>exact ihy h
  ·cases h
 |block i x ih=>
  intro T r st K h;simp only[evR]at h⊢;obtain⟨e,st1,h1,h2⟩:=ih h;cases e with
  |normal=>exact⟨.normal,st1,h1,fun T' K'=>by rw[h2];rfl⟩
  |ret=>exact⟨.ret,st1,h1,fun T' K'=>by rw[h2];rfl⟩
  |exit j=>
   have h1:(yO i K).exits j st1=some r:=h1;simp only[yO]at h1;cases hb:Nat.beq j i with
   |true=>rw[hb]at h1;exact⟨.normal,st1,h1,fun T' K'=>by rw[h2];show(yO i K').exits j st1=_;simp only[yO,hb];rfl⟩
   |false=>rw[hb]at h1;exact⟨.exit j,st1,h1,fun T' K'=>by rw[h2];show(yO i K').exits j st1=_;simp only[yO,hb];rfl⟩
 |loop x ih=>
  intro T r st K h;simp only[evR]at h⊢;have key:∀n{st:St},yR (fun again st'=>evR E m q x st' ⟨fun st''=>match QI m st'' with
   |some s=>again s
   |none=>none,K.exits,K.ret⟩) n st=some r→∃e st',K.at e st'=some r∧∀(T':Type)(K':Cont T'),yR (fun again st'=>evR E m q x st' ⟨fun st''=>match QI m st'' with
   |some s=>again s
   |none=>none,K'.exits,K'.ret⟩) n st=K'.at e st':=by
   intro n;induction n with
   |zero=>intro st h;cases h
   |succ n ihn=>
    intro st h;obtain⟨e,st1,h1,h2⟩:=ih h;cases e with
    |normal=>
     have h1:(match QI m st1 with
      |some s=>yR _ n s
      |none=>none)=some r:=h1
     split at h1
     ·rename_i s hs;obtain⟨e,st2,h3,h4⟩:=ihn h1;refine⟨e,st2,h3,fun T' K'=>?_⟩;rw[←h4 T' K'];refine(h2 T' _).trans ?_;show(match QI m st1 with
       |some s=>yR _ n s
       |none=>none)=_
      rw[hs]
     ·cases h1
    |exit i=>exact⟨.exit i,st1,h1,fun T' K'=>h2 T' _⟩
    |ret=>exact⟨.ret,st1,h1,fun T' K'=>h2 T' _⟩
  exact key q h
end
structure RunT where
 D:FuncId→List AV→Heap→Option Out
 G:(T:Type)→FuncId→List AV→Heap→(Out→Option T)→Option T
 ok:∀(T:Type)(f:FuncId)(a:List AV)(h:Heap)(k:Out→Option T)(r:T),G T f a h k=some r→∃o,D f a h=some o∧k o=some r∧∀(T':Type)(k':Out→Option T'),G T' f a h k'=k' o
def inC(F:RunT)(g:FuncId):Con:=⟨g,List AV×Heap,Out,fun a h=>some (a,h),fun x=>F.D g x.1 x.2,fun _ o=>o,fun T x k=>F.G T g x.1 x.2 k,fun T x k r h=>F.ok T g x.1 x.2 k r h⟩
def RunT.nil:RunT:=⟨fun _ _ _=>none,fun _ _ _ _ _=>none,fun _ _ _ _ _ _ h=>by cases h⟩
noncomputable def Wo(P:Program)(gl:Glob)(Γ:List Con)(fs:List FuncId)(q:Nat)(F:RunT)(T:Type)(f:FuncId)(args:List AV)(h:Heap)(k:Out→Option T):Option T:=match P.funcs[f]? with
 |some fn=>match fn.body,qU P f&&Nat.ble args.length fn.ntmps with
  |some code,true=>evR ⟨P,gl,Γ++fs.map (inC F),1,fn.ntmps,[],fun _ h=>by cases h⟩ h.length q code ⟨Wi 0 args,h⟩
   ⟨fun st=>bnd (QD P h.length fn.results.toList st) k,fun _ _=>none,fun st=>bnd (QD P h.length fn.results.toList st) k⟩
  |_,_=>none
 |none=>none
theorem zm0{P:Program}{gl:Glob}{Γ:List Con}{fs:List FuncId}{q:Nat}{F:RunT}{T:Type}{f:FuncId}{a:List AV}{h:Heap}{k:Out→Option T}{r:T}(e:Wo P gl Γ fs q F T f a h k=some r):
  ∃o,Wo P gl Γ fs q F Out f a h some=some o∧k o=some r∧∀(T':Type)(k':Out→Option T'),Wo P gl Γ fs q F T' f a h k'=k' o:=by
 unfold Wo at e⊢;split at e
 ·rename_i fn hf;split at e
  ·rename_i code hb hen;obtain⟨lv,st1,h1,h2⟩:=zug code e;have key:∀{x:Option Out},x=QD P h.length fn.results.toList st1→bnd x k=some r→(∀(T':Type)(k':Out→Option T'),(evR ⟨P,gl,Γ++fs.map (inC F),1,fn.ntmps,[],fun _ h=>by cases h⟩ h.length q code ⟨Wi 0 a,h⟩
     ⟨fun st=>bnd (QD P h.length fn.results.toList st) k',fun _ _=>none,fun st=>bnd (QD P h.length fn.results.toList st) k'⟩)=bnd x k')→∃o,(evR ⟨P,gl,Γ++fs.map (inC F),1,fn.ntmps,[],fun _ h=>by cases h⟩ h.length q code ⟨Wi 0 a,h⟩
     ⟨fun st=>bnd (QD P h.length fn.results.toList st) some,fun _ _=>none,fun st=>bnd (QD P h.length fn.results.toList st) some⟩)=some o∧k o=some r∧∀(T':Type)(k':Out→Option T'),(evR ⟨P,gl,Γ++fs.map (inC F),1,fn.ntmps,[],fun _ h=>by cases h⟩ h.length q code ⟨Wi 0 a,h⟩
     ⟨fun st=>bnd (QD P h.length fn.results.toList st) k',fun _ _=>none,fun st=>bnd (QD P h.length fn.results.toList st) k'⟩)=k' o:=by
    intro x _ hx hall;obtain⟨o,rfl,h4⟩:=zJ hx;exact⟨o,hall _ _,h4,fun T' k'=>hall _ _⟩
   cases lv with
   |normal=>exact key rfl h1 fun T' k'=>h2 T' _
   |ret=>exact key rfl h1 fun T' k'=>h2 T' _
   |exit i=>cases h1
  ·cases e
 ·cases e
noncomputable def zwe(P:Program)(gl:Glob)(Γ:List Con)(fs:List FuncId)(q:Nat)(F:RunT):RunT:=⟨fun f a h=>Wo P gl Γ fs q F Out f a h some,Wo P gl Γ fs q F,fun _ _ _ _ _ _ h=>zm0 h⟩
noncomputable def zr9(P:Program)(gl:Glob)(Γ:List Con)(fs:List FuncId)(q:Nat):Nat→RunT
 |0=>RunT.nil
 |n+1=>zwe P gl Γ fs q (zr9 P gl Γ fs q n)
theorem zez{P:Program}{GP:Ro→Prop}{gl:Glob}(b:Bas P GP gl){Γ:List Con}(hΓ:∀C∈Γ,SoundC P GP C)(fs:List FuncId)(q:Nat):∀n g,SoundC P GP (inC (zr9 P gl Γ fs q n) g)
 |0,g=>fun _ _ _ _ _ hs=>by cases hs
 |n+1,g=>by
  intro args h x r hd hs;have hx:(args,h)=x:=Option.some.inj hd;subst hx;have hs':Wo P gl Γ fs q (zr9 P gl Γ fs q n) Out g args h some=some r:=hs;unfold Wo at hs';split at hs'
  ·rename_i fn hf;split at hs'
   ·rename_i code hb hen;obtain⟨h1,h2⟩:=Bool.and_eq_true_iff.1 hen;refine⟨jv h1,fun R G w vs hGP W hargs=>?_⟩;have hlen:vs.length=args.length:=hargs.length.symm;have hkn':=Nat.le_of_ble_eq_true h2;refine calls_of_wp hf hb ?_;let c:Base:=⟨R,look G h,fpsAll G h,w,h.length⟩
    let a0:Act:={tmps:=vs.toArray++Array.replicate (fn.ntmps-vs.toArray.size) undef,defers:=[]}
    have F0:Fit c fn.ntmps R G ⟨Wi 0 args,h⟩ a0 w:=by
     refine⟨W,⟨Keeps.refl _ _,fun _ _ h=>h,fun b h=>.inl h,fun i r b hi hr hb=>.inl (jo.2 ⟨i,r,hi,hr,hb⟩),fun _ _ _=>rfl,Nat.le_refl _⟩,K8 hargs fun p v hp=>?_,rfl,?_⟩
     ·have hlt:=(List.getElem?_eq_some_iff.1 hp).1;rw[Nat.zero_add];show(vs.toArray++Array.replicate (fn.ntmps-vs.toArray.size) undef).getD p undef=v;have h4:=(List.getElem?_eq_some_iff.1 hp).2;simp[Array.getElem?_append,hlt];exact h4
     ·show(vs.toArray++Array.replicate (fn.ntmps-vs.toArray.size) undef).size=fn.ntmps;simp;omega
    have ret:∀st R' G'(a:Act) w',bnd (QD P c.m fn.results.toList st) some=some r→Fit c fn.ntmps R' G' st a w'→GP R'→a.defers=[]∧∃v,(results fn a.tmps).run P w'=.ok v w'∧
      (∃V R' G',Ending.returned v=.returned V∧WRel R' G' r.h w'∧Since c R' G' r.h w'∧Rel (look G' r.h) R' r.v V):=by
     intro st R' G' a w' h F _;obtain⟨o,e1,e2⟩:=zJ h;cases e2;obtain⟨V,G2,g1,g2,g3,g4⟩:=zgy F e1;exact⟨F.defers,V,g1,V,R',G2,rfl,g2,g3,g4⟩
    refine zqd (E:=⟨P,gl,Γ++fs.map (inC (zr9 P gl Γ fs q n)),1,fn.ntmps,[],fun _ h=>by cases h⟩) (c:=c) b.hmx (fun C hC=>?_) b.hgl b.hst code
     ⟨fun st=>bnd (QD P c.m fn.results.toList st) some,fun _ _=>none,fun st=>bnd (QD P c.m fn.results.toList st) some⟩ _ _ R G a0 w
     ⟨fun st R' G' a w' h F hG=>ret st R' G' a w' h F hG,(fun i st R' G' a w' h _ _=>by cases h),fun st R' G' a w' h F hG=>ret st R' G' a w' h F hG⟩ hs' F0 hGP
    rcases List.mem_append.1 hC with hC|hC
    ·exact hΓ C hC
    ·obtain⟨p,_,rfl⟩:=List.mem_map.1 hC;exact zez b hΓ fs q n p
   ·cases hs'
  ·cases hs'
noncomputable def kin{P:Program}{GP:Ro→Prop}{gl:Glob}(b:Bas P GP gl)(Γ:List (Kn P GP))(fs:List FuncId)(q n:Nat)(g:FuncId):Kn P GP:=kn (zez b (zgv Γ) fs q n g)
noncomputable def zwJ{P:Program}{GP:Ro→Prop}{gl:Glob}(b:Bas P GP gl)(Γ:List (Kn P GP))(fs:List FuncId)(q n:Nat):List (Kn P GP):=Γ++fs.map (kin b Γ fs q n)
end Go.Am
end
section
namespace Go.Am
open Go Go.RowKit Go.Vc
structure RunRow where
 g:FuncId
 Γ:List Con
 fs:List FuncId
 qs:List FuncId
def RunRow.good(r:RunRow):Bool:=r.qs.all fun f=>!memN f r.fs&&r.Γ.all fun C=>!Nat.beq C.f f
def RunRow.of(g:FuncId):List RunRow→RunRow
 |[]=>⟨0,[],[],[]⟩
 |r::l=>cond (Nat.beq r.g g) r (RunRow.of g l)
theorem RunRow.of_good(g:FuncId):∀{l:List RunRow},l.all RunRow.good=true→(RunRow.of g l).good=true
 |[],_=>rfl
 |r::l,h=>by
  rw[List.all_cons,Bool.and_eq_true]at h;unfold RunRow.of;cases Nat.beq r.g g with
  |true=>exact h.1
  |false=>exact RunRow.of_good g h.2
theorem RunRow.of_all(g:FuncId){p:RunRow→Bool}(h0:p ⟨0,[],[],[]⟩=true):∀{l:List RunRow},l.all p=true→p (RunRow.of g l)=true
 |[],_=>h0
 |r::l,h=>by
  rw[List.all_cons,Bool.and_eq_true]at h;unfold RunRow.of;cases Nat.beq r.g g with
  |true=>exact h.1
  |false=>exact RunRow.of_all g h0 h.2
structure Mm where
 g:FuncId
 args:List AV
 h:Heap
 o:Out
def Mm.con(m:Mm):Con:=Con6.c ⟨m.g,Unit,Unit,fun a hh=>cond (qA a m.args&&Zx hh m.h) (some ()) none,fun _=>some (),fun _ _=>m.o⟩
theorem Mm.quiet{m:Mm}(h:Zx m.o.h m.h=true):QuietC m.con:=fun args hh x r hd _=>by
 have hd:cond (qA args m.args&&Zx hh m.h) (some ()) none=some x:=hd;cases hb:qA args m.args&&Zx hh m.h with
 |false=>rw[hb]at hd;cases hd
 |true=>rw[Bool.and_eq_true]at hb;show m.o.h=hh;rw[Zw _ _ hb.2,Zw _ _ h]
def RunRow.quietAll(qa:List FuncId)(r:RunRow):Bool:=r.qs.all fun f=>memN f qa
def Mm.good(qa:List FuncId)(m:Mm):Bool:=!memN m.g qa||Zx m.o.h m.h
def RunRow.runW(l:List RunRow)(qa:List FuncId)(ns:FuncId→Bool)(q:Nat)(h:l.all RunRow.good=true)(h1:l.all (RunRow.quietAll qa)=true)(ms:List Mm)(h2:ms.all (Mm.good qa)=true):RunW:=
 ⟨fun g=>ms.map Mm.con++(RunRow.of g l).Γ,fun g=>(RunRow.of g l).fs,fun g=>(RunRow.of g l).qs,ns,q,fun g f hf=>by
 have:=List.all_eq_true.1 (RunRow.of_good g h) f (zP.1 hf);rw[Bool.and_eq_true]at this;obtain⟨k1,k2⟩:=this;refine⟨fun hm=>?_,fun C hC e=>?_⟩
 ·rw[zP.2 hm]at k1;cases k1
 ·rcases List.mem_append.1 hC with hC|hC
  ·obtain⟨m,hm,rfl⟩:=List.mem_map.1 hC;have k3:=List.all_eq_true.1 h2 m hm;have k4:=List.all_eq_true.1 (RunRow.of_all (p:=RunRow.quietAll qa) g rfl h1) f (zP.1 hf);have e:m.g=f:=e;unfold Mm.good at k3;rw[e,k4]at k3;exact Mm.quiet k3
  ·have:=List.all_eq_true.1 k2 C hC;rw[e,Nat.beq_refl]at this;cases this⟩
theorem RunRow.sound{P:Program}{GP:Ro→Prop}{l:List RunRow}(h:∀r∈l,∀C∈r.Γ,SoundC P GP C)(g:FuncId):∀C∈(RunRow.of g l).Γ,SoundC P GP C:=by
 induction l with
 |nil=>intro C hC;cases hC
 |cons r l ih=>
  unfold RunRow.of;cases Nat.beq r.g g with
  |true=>exact h r List.mem_cons_self
  |false=>exact ih fun r hr=>h r (List.mem_cons_of_mem _ hr)
theorem Mm.sound{P:Program}{GP:Ro→Prop}{gl:Glob}(b:Bas P GP gl){l:List RunRow}{qa:List FuncId}{ns:FuncId→Bool}{q:Nat}{h:l.all RunRow.good=true}{h1:l.all (RunRow.quietAll qa)=true}{ms:List Mm}{h2:ms.all (Mm.good qa)=true}
  (hl:∀r∈l,∀C∈r.Γ,SoundC P GP C) (hm:∀m∈ms,SoundC P GP (Mm.con m)) (m:Mm) (n:Nat) (hr:WO P gl (RunRow.runW l qa ns q h h1 ms h2) n m.g m.args m.h=some m.o):SoundC P GP m.con:=by
 have key:=Zy b (RunRow.runW l qa ns q h h1 ms h2) (fun g C hC=>by
  rcases List.mem_append.1 hC with hC|hC
  ·obtain⟨m,hm',rfl⟩:=List.mem_map.1 hC;exact hm m hm'
  ·exact RunRow.sound hl g C hC) n m.g
 intro args hh x r hd hs;have hd:cond (qA args m.args&&Zx hh m.h) (some ()) none=some x:=hd;cases hb:qA args m.args&&Zx hh m.h with
 |false=>rw[hb]at hd;cases hd
 |true=>rw[Bool.and_eq_true]at hb;have e1:=yF _ _ hb.1;have e2:=Zw _ _ hb.2;subst e1 e2;exact key m.args m.h (m.args,m.h) m.o rfl hr
structure RowN where
 g:FuncId
 i:List Nat
 fs:List FuncId
 qs:List FuncId
def zhn(l:List Con):List Nat→List Con
 |[]=>[]
 |i::r=>match l[i]? with
  |some c=>c::zhn l r
  |none=>zhn l r
theorem Vz{l:List Con}:∀{i:List Nat}{C:Con},C∈zhn l i→C∈l
 |[],_,h=>by cases h
 |i::r,C,h=>by
  unfold zhn at h;split at h
  ·rename_i c hc;rcases List.mem_cons.1 h with h|h
   ·rw[h];exact List.mem_of_getElem? hc
   ·exact Vz h
  ·exact Vz h
def RowN.rows(l:List Con)(r:List RowN):List RunRow:=r.map fun r=>⟨r.g,zhn l r.i,r.fs,r.qs⟩
theorem RowN.sound{P:Program}{GP:Ro→Prop}{l:List Con}{r:List RowN}(h:∀C∈l,SoundC P GP C):∀x∈RowN.rows l r,∀C∈x.Γ,SoundC P GP C:=fun x hx C hC=>by obtain⟨y,_,rfl⟩:=List.mem_map.1 hx;exact h C (Vz hC)
end Go.Am
end
