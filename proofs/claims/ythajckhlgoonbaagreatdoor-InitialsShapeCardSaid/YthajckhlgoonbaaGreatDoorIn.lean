/-
  A part of the proof of the laws.
-/
import Derived.Test.YthajckhlgoonbaaGreatDoorCr
import Derived.Test.YthajckhlgoonbaaGreatDoorAm26
import Derived.Lib.SlBytesRowKit
section
namespace Go.Am
open Go Go.RowKit Go.Vc
section
variable {E : Env} {T : Type} {r : T}
end
end Go.Am
end
section
namespace Go.Am
open Go Go.RowKit Go.Vc
structure RunRow where
 g:FuncId
 Γ:List Con
 fs:List FuncId
 qs:List FuncId
def RunRow.good(r:RunRow):Bool:=r.qs.all fun f=>!memN f r.fs&&r.Γ.all fun C=>!Nat.beq C.f f
def RunRow.of(g:FuncId):List RunRow->RunRow
 |[]=>⟨0,[],[],[]⟩
 |r::l=>cond (Nat.beq r.g g) r (RunRow.of g l)
theorem RunRow.of_good(g:FuncId):∀{l:List RunRow},l.all RunRow.good=true->(RunRow.of g l).good=true
 |[],_=>rfl
 |r::l,h=>by
  rw[List.all_cons,mY]at h;unfold RunRow.of;cases Nat.beq r.g g with
  |true=>exact h.1
  |false=>exact RunRow.of_good g h.2
theorem RunRow.of_all(g:FuncId){p:RunRow->Bool}(h0:p ⟨0,[],[],[]⟩=true):∀{l:List RunRow},l.all p=true->p (RunRow.of g l)=true
 |[],_=>h0
 |r::l,h=>by
  rw[List.all_cons,mY]at h;unfold RunRow.of;cases Nat.beq r.g g with
  |true=>exact h.1
  |false=>exact RunRow.of_all g h0 h.2
structure Mm where
 g:FuncId
 args:List AV
 h:Heap
 o:Out
def Mm.con(m:Mm):Con:=Con6.c ⟨m.g,Unit,Unit,fun a hh=>cond (Zg a m.args&&Yk hh m.h) (some ()) none,fun _=>some (),fun _ _=>m.o⟩
theorem Mm.quiet{m:Mm}(h:Yk m.o.h m.h=true):QuietC m.con:=fun args hh x r hd _=>by
 have hd:cond (Zg args m.args&&Yk hh m.h) (some ()) none=some x:=hd;cases hb:Zg args m.args&&Yk hh m.h with
 |false=>rw[hb]at hd;cases hd
 |true=>rw[mY]at hb;show m.o.h=hh;rw[Y8 _ _ hb.2,Y8 _ _ h]
def RunRow.quietAll(qa:List FuncId)(r:RunRow):Bool:=r.qs.all fun f=>memN f qa
def Mm.good(qa:List FuncId)(m:Mm):Bool:=!memN m.g qa||Yk m.o.h m.h
def RunRow.runW(l:List RunRow)(qa:List FuncId)(ns:FuncId->Bool)(q:Nat)(h:l.all RunRow.good=true)(h1:l.all (RunRow.quietAll qa)=true)(ms:List Mm)(h2:ms.all (Mm.good qa)=true):RunW:=
 ⟨fun g=>ms.map Mm.con++(RunRow.of g l).Γ,fun g=>(RunRow.of g l).fs,fun g=>(RunRow.of g l).qs,ns,q,fun g f hf=>by
 have:=nU.1 (RunRow.of_good g h) f (zP.1 hf);rw[mY]at this;obtain⟨k1,k2⟩:=this;refine⟨fun hm=>?_,fun C hC e=>?_⟩
 ·rw[zP.2 hm]at k1;cases k1
 ·rcases nJ.1 hC with hC|hC
  ·obtain⟨m,hm,rfl⟩:=uAF.1 hC;have k3:=nU.1 h2 m hm;have k4:=nU.1 (RunRow.of_all (p:=RunRow.quietAll qa) g rfl h1) f (zP.1 hf);have e:m.g=f:=e;unfold Mm.good at k3;rw[e,k4]at k3;exact Mm.quiet k3
  ·have:=nU.1 k2 C hC;rw[e,Nat.beq_refl]at this;cases this⟩
theorem RunRow.sound{P:Program}{GP:Ro->Prop}{l:List RunRow}(h:∀r∈l,∀C∈r.Γ,SoundC P GP C)(g:FuncId):∀C∈(RunRow.of g l).Γ,SoundC P GP C:=by
 induction l with
 |nil=>intro C hC;cases hC
 |cons r l ih=>
  unfold RunRow.of;cases Nat.beq r.g g with
  |true=>exact h r uAs
  |false=>exact ih fun r hr=>h r (uAb _ hr)
theorem Mm.sound{P:Program}{GP:Ro->Prop}{gl:Glob}(b:Bas P GP gl){l:List RunRow}{qa:List FuncId}{ns:FuncId->Bool}{q:Nat}{h:l.all RunRow.good=true}{h1:l.all (RunRow.quietAll qa)=true}{ms:List Mm}{h2:ms.all (Mm.good qa)=true}
  (hl:∀r∈l,∀C∈r.Γ,SoundC P GP C) (hm:∀m∈ms,SoundC P GP (Mm.con m)) (m:Mm) (n:Nat) (hr:zgI P gl (RunRow.runW l qa ns q h h1 ms h2) n m.g m.args m.h=some m.o):SoundC P GP m.con:=by
 have key:=WW b (RunRow.runW l qa ns q h h1 ms h2) (fun g C hC=>by
  rcases nJ.1 hC with hC|hC
  ·obtain⟨m,hm',rfl⟩:=uAF.1 hC;exact hm m hm'
  ·exact RunRow.sound hl g C hC) n m.g
 intro args hh x r hd hs;have hd:cond (Zg args m.args&&Yk hh m.h) (some ()) none=some x:=hd;cases hb:Zg args m.args&&Yk hh m.h with
 |false=>rw[hb]at hd;cases hd
 |true=>rw[mY]at hb;have e1:=yv _ _ hb.1;have e2:=Y8 _ _ hb.2;subst e1 e2;exact key m.args m.h (m.args,m.h) m.o rfl hr
structure RowN where
 g:FuncId
 i:List Nat
 fs:List FuncId
 qs:List FuncId
def zk2(l:List Con):List Nat->List Con
 |[]=>[]
 |i::r=>match l[i]? with
  |some c=>c::zk2 l r
  |none=>zk2 l r
theorem zb8{l:List Con}:∀{i:List Nat}{C:Con},C∈zk2 l i->C∈l
 |[],_,h=>by cases h
 |i::r,C,h=>by
  unfold zk2 at h;split at h
  ·rename_i c hc;rcases nS.1 h with h|h
   ·rw[h];exact uAJ hc
   ·exact zb8 h
  ·exact zb8 h
def RowN.rows(l:List Con)(r:List RowN):List RunRow:=r.map fun r=>⟨r.g,zk2 l r.i,r.fs,r.qs⟩
theorem RowN.sound{P:Program}{GP:Ro->Prop}{l:List Con}{r:List RowN}(h:∀C∈l,SoundC P GP C):∀x∈RowN.rows l r,∀C∈x.Γ,SoundC P GP C:=fun x hx C hC=>by obtain⟨y,_,rfl⟩:=uAF.1 hx;exact h C (zb8 hC)
end Go.Am
end
section
namespace Go.Am
open Go Go.RowKit Go.Vc
def Q6(l:uBH):List Int:=l.map fun c=>(c.toNat:Int)
theorem zaO{w:World}{b off:Nat}{cs:Array Value}{T:TypeId}{fr:Nat×Nat}{l:uBH}{tl:List Value}(hb:w.heap[b]? =some (.cells cs T fr))(hd:cs.toList.drop off=l.map u8V++tl)(i:Nat)(hi:i<l.length):
  w.cell? ⟨b,off+i,none⟩=some (.int .u8 ((Q6 l).getD i 0)):=by
 have h1:cs[off+i]? =some (u8V l[i]):=by have:=congrArg (·[i]?) hd;simp only[nZ]at this;rw[nO (by simpa using hi),uAq,mW hi]at this;simpa using this
 have h2:(Q6 l).getD i 0=(l[i].toNat:Int):=by rw[mZ];unfold Q6;rw[uAq,mW hi];rfl
 rw[h2];simp[World.cell?,hb,h1,u8V]
theorem zjN{R:Ro}{G:List Res}{h:Heap}{w:World}(W:WRel R G h w){v:AV}{V:Value}{l:uBH}(hb:qr h v=some l)(hv:Rel (look G h) R v V):
  ∃p cap,V=.slice p l.length cap/\l.length<=cap/\Lib.BytesIn w p l.length (Q6 l):=by
 have live:∀{i:Nat}{o:AO},hget h i=some o->∃r,G[i]? =some r/\look G h i=some ⟨r.b,r.virt,r.cap,lenO o⟩/\ObjRel (look G h) R r o w:=fun{i o} ho=>by obtain⟨r,hr⟩:=W.res ⟨o,ho⟩;exact⟨r,hr,zS ho hr,W.obj i o r ho hr⟩
 unfold qr at hb;split at hb
 ·cases hb;rcases hv with⟨hn,ad,cap,rfl,_⟩|⟨b,off,cap,cs,T,fr,seg,tl,rfl,_,hcap,hR,hd,hC⟩
  ·have hl:l=[]:=nX.1 hn;subst hl;exact⟨ad,cap,rfl,uAC _,Lib.BytesIn.nil _ _ _⟩
  ·have hC:seg=l.map u8V:=hC;subst hC;exact⟨some ⟨b,off,none⟩,cap,rfl,hcap,fun _=>⟨b,off,rfl,fun i hi=>zaO (W.ro _ _ hR) hd i hi⟩⟩
 ·cases hb;exact⟨none,0,hv,nB _,Lib.BytesIn.nil _ _ _⟩
 ·split at hb
  ·rename_i i T l' ho;cases hb;obtain⟨r,e1,e2,e3⟩:=live ho;obtain⟨f,h1,h2,h3⟩:=hv;rw[e2]at h1;cases h1;simp only[ObjRel]at e3;rcases e3 with⟨g1,g2,g3,g4⟩|⟨g1,g2,g3,cs,tl,fr,g4,g5,g6,g7⟩
   ·obtain⟨_,hV⟩:=h2 g1;have hl:l=[]:=nX.1 g2;subst hl;exact⟨none,0,hV,nB _,Lib.BytesIn.nil _ _ _⟩
   ·have hV:=h3 g1;subst g5;exact⟨some ⟨r.b,0,none⟩,r.cap,hV,g3,fun _=>⟨r.b,0,rfl,fun i hi=>zaO (tl:=tl) g4 (by rw[uAk]) i hi⟩⟩
  ·cases hb
 ·split at hb
  ·rename_i i T l' ho;cases hb;obtain⟨r,e1,e2,e3⟩:=live ho;obtain⟨f,h1,h2,_,hV⟩:=hv;rw[e2]at h1;cases h1;simp only[ObjRel]at e3;rcases e3 with⟨g1,_⟩|⟨g1,g2,g3,cs,tl,fr,g4,g5,g6,g7⟩
   ·rw[g1]at h2;cases h2
   ·subst g5;exact⟨some ⟨r.b,0,none⟩,r.cap,hV,g3,fun _=>⟨r.b,0,rfl,fun i hi=>zaO (tl:=tl) g4 (by rw[uAk]) i hi⟩⟩
  ·cases hb
 ·rename_i i c0 n0;split at hb
  ·rename_i T l' ho;cases hb;obtain⟨r,e1,e2,e3⟩:=live ho;obtain⟨f,h1,p1,p2,p3,aa,cap,hV,p4,p5⟩:=hv;rw[e2]at h1;cases h1;have p3:c0+n0<=(l'.length:Int):=p3;have hlen:(Vc.sub l' c0 (c0+n0)).length=n0.toNat:=by unfold Vc.sub;rw[nD,nA];omega
   by_cases h0:0<n0
   ·obtain⟨q1,rfl⟩:=p5 h0;simp only[ObjRel]at e3;rcases e3 with⟨g1,_⟩|⟨g1,g2,g3,cs,tl,fr,g4,g5,g6,g7⟩
    ·rw[g1]at q1;cases q1
    ·subst g5;refine⟨some ⟨r.b,c0.toNat*1,none⟩,cap,by rw[hlen];exact hV,by rw[hlen];exact p4,fun _=>⟨r.b,c0.toNat*1,rfl,fun i hi=>?_⟩⟩;refine zaO (tl:=(l'.drop (c0+n0).toNat).map u8V++tl) g4 ?_ i hi;rw[nM,List.toList_toArray,uAe (by rw[uAn];omega),<-uAQ,zcr l' (a:=c0.toNat) (b:=(c0+n0).toNat) (by omega) (by omega),uAo,nI];rfl
   ·have hz:n0=0:=by omega
    subst hz;have hnil:Vc.sub l' c0 (c0+0)=[]:=nX.1 hlen;rw[hnil];exact⟨aa,cap,hV,uAC _,Lib.BytesIn.nil _ _ _⟩
  ·cases hb
 ·cases hb
end Go.Am
end
section
namespace Go.Am
open Go Go.RowKit Go.Vc
def zxK{X:Type}(f:FuncId)(d:List AV->Heap->Option X)(s:X->Option AO)(e:Nat->AV):Con:=
 Con6.c ⟨f,Heap×X,AO,fun a h=>match d a h with
  |some x=>some (h,x)
  |none=>none,fun x=>s x.2,fun x ao=>⟨e x.1.length,x.1++[some ao]⟩⟩
theorem znC{P:Program}{GP:Ro->Prop}{X:Type}{f:FuncId}{d:List AV->Heap->Option X}{s:X->Option AO}{e:Nat->AV}(he:Proofs.Enters P f)
  (h4:∀args h x ao R G w vs,d args h=some x->s x=some ao->GP R->WRel R G h w->RelL (look G h) R args vs->Calls P f vs.toArray w fun e' w'=>∃V r,e'=.returned V/\Keeps [] w w'/\(∀b∈r.fp,w.heap.size<=b)/\
   (∀L',ObjRel L' R r ao w')/\∀L',L' h.length=some ⟨r.b,r.virt,r.cap,lenO ao⟩->Rel L' R (e h.length) V):SoundC P GP (zxK f d s e):=by
 intro args h y ao hd hs;have hd:(match d args h with
  |some x=>some (h,x)
  |none=>none)=some y:=hd
 split at hd
 ·rename_i x hx;cases hd;refine⟨he,fun R G w vs hGP W hargs=>?_⟩;refine(h4 args h x ao R G w vs hx hs hGP W hargs).mono fun e' w' ⟨V,r,he',hk,hfp,ho,hv⟩=>?_
  let c:Base:=⟨R,look G h,fpsAll G h,w,h.length⟩
  have F:Fit c 0 R G ⟨[],h⟩ {tmps:= #[],defers:=[]} w:=by refine⟨W,⟨Keeps.refl _ _,fun _ _ h=>h,fun b h=>.inl h,fun i r b hi hr hb=>.inl (ya.2 ⟨i,r,hi,hr,hb⟩),fun _ _ _=>rfl,nB _⟩,fun t=>?_,rfl,rfl⟩;exact trivial
  obtain⟨G1,F1,hfree,hlen⟩:=F.wide 1;have hlt:h.length<(wide h 1).length:=by rw[hlen];exact uBk _
  obtain⟨F2,hl,_⟩:=F1.fresh (i:=h.length) (ao:=ao) (r:=r) hlt (nB _) (hfree _ (nB _)) hk hfp fun L' _=>ho L'
  have hset:(wide h 1).set h.length (some (show AO from ao))=h++[some (show AO from ao)]:=by rw[zih];simp
  rw[hset]at F2 hl;exact⟨V,R,G1.set h.length r,he',F2.wrel,F2.since,hv _ hl⟩
 ·cases hd
end Go.Am
end
