/-
  A part of the proof of the laws.
-/
import Derived.Test.YtckmndepnihanaaGreatDoorAm26
import Derived.Lib.SlBytesRowKit
import Derived.Test.YtckmndepnihanaaGreatDoorCr
section
namespace Go.Am
open Go Go.RowKit Go.Vc
end Go.Am
end
section
namespace Go.Am
open Go Go.RowKit Go.Vc
def zvq{X:Type}(f:FuncId)(d:List AV→Heap→Option X)(s:X→Option AO)(e:Nat→AV):Con:=
 Con6.c ⟨f,Heap×X,AO,fun a h=>match d a h with
  |some x=>some (h,x)
  |none=>none,fun x=>s x.2,fun x ao=>⟨e x.1.length,x.1++[some ao]⟩⟩
theorem zc2{P:Program}{GP:Ro→Prop}{X:Type}{f:FuncId}{d:List AV→Heap→Option X}{s:X→Option AO}{e:Nat→AV}(he:Proofs.Enters P f)
  (h4:∀args h x ao R G w vs,d args h=some x→s x=some ao→GP R→WRel R G h w→RelL (look G h) R args vs→Calls P f vs.toArray w fun e' w'=>∃V r,e'=.returned V∧Keeps [] w w'∧(∀b∈r.fp,w.heap.size≤b)∧
   (∀L',ObjRel L' R r ao w')∧∀L',L' h.length=some ⟨r.b,r.virt,r.cap,lenO ao⟩→Rel L' R (e h.length) V):SoundC P GP (zvq f d s e):=by
 intro args h y ao hd hs;have hd:(match d args h with
  |some x=>some (h,x)
  |none=>none)=some y:=hd
 split at hd
 ·rename_i x hx;cases hd;refine⟨he,fun R G w vs hGP W hargs=>?_⟩;refine(h4 args h x ao R G w vs hx hs hGP W hargs).mono fun e' w' ⟨V,r,he',hk,hfp,ho,hv⟩=>?_
  let c:Base:=⟨R,look G h,fpsAll G h,w,h.length⟩
  have F:Fit c 0 R G ⟨[],h⟩ {tmps:= #[],defers:=[]} w:=by refine⟨W,⟨Keeps.refl _ _,fun _ _ h=>h,fun b h=>.inl h,fun i r b hi hr hb=>.inl (jk.2 ⟨i,r,hi,hr,hb⟩),fun _ _ _=>rfl,Nat.le_refl _⟩,fun t=>?_,rfl,rfl⟩;exact trivial
  obtain⟨G1,F1,hfree,hlen⟩:=F.wide 1;have hlt:h.length<(wide h 1).length:=by rw[hlen];exact Nat.lt_succ_self _
  obtain⟨F2,hl,_⟩:=F1.fresh (i:=h.length) (ao:=ao) (r:=r) hlt (Nat.le_refl _) (hfree _ (Nat.le_refl _)) hk hfp fun L' _=>ho L'
  have hset:(wide h 1).set h.length (some (show AO from ao))=h++[some (show AO from ao)]:=by rw[zfr];simp
  rw[hset]at F2 hl;exact⟨V,R,G1.set h.length r,he',F2.wrel,F2.since,hv _ hl⟩
 ·cases hd
def zmy:AV→Bool
 |.int _ _=>true
 |.bool _=>true
 |.str _=>true
 |_=>false
theorem znS{L L':Lk}{R R':Ro}{v:AV}{V:Value}(h:zmy v=true)(hr:Rel L R v V):Rel L' R' v V:=by cases v<;>first|exact hr|cases h
theorem XZ{L L':Lk}{R R':Ro}:∀{l:List AV}{vs:List Value},l.all zmy=true→RelL L R l vs→RelL L' R' l vs
 |[],_,_,h=>h
 |v::r,vs,h,⟨u,us,h1,h2,h3⟩=>by rw[List.all_cons,Bool.and_eq_true]at h;exact⟨u,us,h1,znS h.1 h2,XZ h.2 h3⟩
theorem znk{P:Program}{GP:Ro→Prop}{F:FuncId→List AV→Heap→Option Out}{g:FuncId}{l:List (AV×AV)}(hF:SoundC P GP (zwS F g))(hp:((l.map (·.1)).all zmy&&(l.map (·.2)).all zmy)=true)
  (h:F g [] []=some ⟨.map 0,[some (.mp l)]⟩):SoundC P GP (zvq g (fun a _=>match a with
   |[]=>some ()
   |_=>none) (fun _=>some (.mp l)) .map):=by
 obtain⟨hE,hC⟩:=hF [] [] ([],[]) ⟨.map 0,[some (.mp l)]⟩ rfl h;rw[Bool.and_eq_true]at hp;refine zc2 hE fun args hh x ao R G w vs hd hs hGP W hr=>?_
 cases hs;have hvs:vs=[]:=by
  split at hd
  ·exact hr
  ·cases hd
 subst hvs;have W0:WRel R [] [] w:=⟨rfl,fun i o r ho _=>(by simp[hget]at ho),fun i j ri rj _ hi=>(by obtain⟨o,ho⟩:=hi;simp[hget]at ho),fun i r hi=>(by obtain⟨o,ho⟩:=hi;simp[hget]at ho),W.ro⟩
 refine(hC R [] w [] hGP W0 rfl).mono fun e' w' ⟨V,R',G',he,W',S',hV⟩=>?_
 have W':WRel R' G' [some (.mp l)] w':=W';have S':Since ⟨R,look [] [],fpsAll [] [],w,0⟩ R' G' [some (.mp l)] w':=S';have hV:Rel (look G' [some (.mp l)]) R' (.map 0) V:=hV;have hx:fpsAll [] []=[]:=rfl;have hl:hget [some (AO.mp l)] 0=some (.mp l):=rfl;obtain⟨r,hG⟩:=W'.res ⟨_,hl⟩;obtain⟨g1,g2,g3,g4,es,ck,g5,g6,g7⟩:=W'.obj 0 _ r hl hG;obtain⟨f,f1,f2,f3⟩:=hV;rw[zW hl hG]at f1;cases f1;refine⟨V,r,he,by have:=S'.keeps;rwa [hx]at this,fun b hb=>?_,fun L'=>⟨g1,g2,g3,g4,es,ck,g5,XZ hp.1 g6,XZ hp.2 g7⟩,fun L' hL=>⟨_,hL,f2,f3⟩⟩;rcases S'.own 0 r b ⟨_,hl⟩ hG hb with h|h
 ·rw[show(Base.mk R (look [] []) (fpsAll [] []) w 0).X=[]from hx]at h;cases h
 ·exact h
end Go.Am
end
section
namespace Go.Am
open Go Go.RowKit Go.Vc
section
variable {E : Env} {T : Type} {r : T}
inductive Lv where
 |normal
 |exit (i:Nat)
 |ret
def Cont.at{R:Type}(K:Cont R):Lv→St→Option R
 |.normal=>K.normal
 |.exit i=>K.exits i
 |.ret=>K.ret
end
end Go.Am
end
section
namespace Go.Am
open Go Go.RowKit Go.Vc
structure RunRow where
 g:FuncId
 Γ:List Con
 fs:List FuncId
 qs:List FuncId
def RunRow.good(r:RunRow):Bool:=r.qs.all fun f=>!memN f r.fs&&r.Γ.all fun C=>!Nat.beq C.f f
def RunRow.of(g:FuncId):List RunRow→RunRow
 |[]=>⟨0,[],[],[]⟩
 |r::l=>cond (Nat.beq r.g g) r (RunRow.of g l)
theorem RunRow.of_good(g:FuncId):∀{l:List RunRow},l.all RunRow.good=true→(RunRow.of g l).good=true
 |[],_=>rfl
 |r::l,h=>by
  rw[List.all_cons,Bool.and_eq_true]at h;unfold RunRow.of;cases Nat.beq r.g g with
  |true=>exact h.1
  |false=>exact RunRow.of_good g h.2
theorem RunRow.of_all(g:FuncId){p:RunRow→Bool}(h0:p ⟨0,[],[],[]⟩=true):∀{l:List RunRow},l.all p=true→p (RunRow.of g l)=true
 |[],_=>h0
 |r::l,h=>by
  rw[List.all_cons,Bool.and_eq_true]at h;unfold RunRow.of;cases Nat.beq r.g g with
  |true=>exact h.1
  |false=>exact RunRow.of_all g h0 h.2
structure Mm where
 g:FuncId
 args:List AV
 h:Heap
 o:Out
def Mm.con(m:Mm):Con:=Con6.c ⟨m.g,Unit,Unit,fun a hh=>cond (qi a m.args&&Zx hh m.h) (some ()) none,fun _=>some (),fun _ _=>m.o⟩
theorem Mm.quiet{m:Mm}(h:Zx m.o.h m.h=true):QuietC m.con:=fun args hh x r hd _=>by
 have hd:cond (qi args m.args&&Zx hh m.h) (some ()) none=some x:=hd;cases hb:qi args m.args&&Zx hh m.h with
 |false=>rw[hb]at hd;cases hd
 |true=>rw[Bool.and_eq_true]at hb;show m.o.h=hh;rw[Zw _ _ hb.2,Zw _ _ h]
def RunRow.quietAll(qa:List FuncId)(r:RunRow):Bool:=r.qs.all fun f=>memN f qa
def Mm.good(qa:List FuncId)(m:Mm):Bool:=!memN m.g qa||Zx m.o.h m.h
def RunRow.runW(l:List RunRow)(qa:List FuncId)(ns:FuncId→Bool)(q:Nat)(h:l.all RunRow.good=true)(h1:l.all (RunRow.quietAll qa)=true)(ms:List Mm)(h2:ms.all (Mm.good qa)=true):RunW:=
 ⟨fun g=>ms.map Mm.con++(RunRow.of g l).Γ,fun g=>(RunRow.of g l).fs,fun g=>(RunRow.of g l).qs,ns,q,fun g f hf=>by
 have:=List.all_eq_true.1 (RunRow.of_good g h) f (zy.1 hf);rw[Bool.and_eq_true]at this;obtain⟨k1,k2⟩:=this;refine⟨fun hm=>?_,fun C hC e=>?_⟩
 ·rw[zy.2 hm]at k1;cases k1
 ·rcases List.mem_append.1 hC with hC|hC
  ·obtain⟨m,hm,rfl⟩:=List.mem_map.1 hC;have k3:=List.all_eq_true.1 h2 m hm;have k4:=List.all_eq_true.1 (RunRow.of_all (p:=RunRow.quietAll qa) g rfl h1) f (zy.1 hf);have e:m.g=f:=e;unfold Mm.good at k3;rw[e,k4]at k3;exact Mm.quiet k3
  ·have:=List.all_eq_true.1 k2 C hC;rw[e,Nat.beq_refl]at this;cases this⟩
theorem RunRow.sound{P:Program}{GP:Ro→Prop}{l:List RunRow}(h:∀r∈l,∀C∈r.Γ,SoundC P GP C)(g:FuncId):∀C∈(RunRow.of g l).Γ,SoundC P GP C:=by
 induction l with
 |nil=>intro C hC;cases hC
 |cons r l ih=>
  unfold RunRow.of;cases Nat.beq r.g g with
  |true=>exact h r List.mem_cons_self
  |false=>exact ih fun r hr=>h r (List.mem_cons_of_mem _ hr)
theorem Mm.sound{P:Program}{GP:Ro→Prop}{gl:Glob}(b:Bas P GP gl){l:List RunRow}{qa:List FuncId}{ns:FuncId→Bool}{q:Nat}{h:l.all RunRow.good=true}{h1:l.all (RunRow.quietAll qa)=true}{ms:List Mm}{h2:ms.all (Mm.good qa)=true}
  (hl:∀r∈l,∀C∈r.Γ,SoundC P GP C) (hm:∀m∈ms,SoundC P GP (Mm.con m)) (m:Mm) (n:Nat) (hr:zaD P gl (RunRow.runW l qa ns q h h1 ms h2) n m.g m.args m.h=some m.o):SoundC P GP m.con:=by
 have key:=Zz b (RunRow.runW l qa ns q h h1 ms h2) (fun g C hC=>by
  rcases List.mem_append.1 hC with hC|hC
  ·obtain⟨m,hm',rfl⟩:=List.mem_map.1 hC;exact hm m hm'
  ·exact RunRow.sound hl g C hC) n m.g
 intro args hh x r hd hs;have hd:cond (qi args m.args&&Zx hh m.h) (some ()) none=some x:=hd;cases hb:qi args m.args&&Zx hh m.h with
 |false=>rw[hb]at hd;cases hd
 |true=>rw[Bool.and_eq_true]at hb;have e1:=yi _ _ hb.1;have e2:=Zw _ _ hb.2;subst e1 e2;exact key m.args m.h (m.args,m.h) m.o rfl hr
structure RowN where
 g:FuncId
 i:List Nat
 fs:List FuncId
 qs:List FuncId
def ziv(l:List Con):List Nat→List Con
 |[]=>[]
 |i::r=>match l[i]? with
  |some c=>c::ziv l r
  |none=>ziv l r
theorem WC{l:List Con}:∀{i:List Nat}{C:Con},C∈ziv l i→C∈l
 |[],_,h=>by cases h
 |i::r,C,h=>by
  unfold ziv at h;split at h
  ·rename_i c hc;rcases List.mem_cons.1 h with h|h
   ·rw[h];exact List.mem_of_getElem? hc
   ·exact WC h
  ·exact WC h
def RowN.rows(l:List Con)(r:List RowN):List RunRow:=r.map fun r=>⟨r.g,ziv l r.i,r.fs,r.qs⟩
theorem RowN.sound{P:Program}{GP:Ro→Prop}{l:List Con}{r:List RowN}(h:∀C∈l,SoundC P GP C):∀x∈RowN.rows l r,∀C∈x.Γ,SoundC P GP C:=fun x hx C hC=>by obtain⟨y,_,rfl⟩:=List.mem_map.1 hx;exact h C (WC hC)
end Go.Am
end
