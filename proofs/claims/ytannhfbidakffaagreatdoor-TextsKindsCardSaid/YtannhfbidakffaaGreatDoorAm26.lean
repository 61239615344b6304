/-
  A part of the proof of the laws.
-/
import Derived.Test.YtannhfbidakffaaGreatDoorAm14
namespace Go.Am
open Go Go.RowKit Go.Vc
mutual
def jP:AV->Bool
 |.int _ _|.bool _|.str _|.nilp|.nilf|.nili|.nilm|.nils=>true
 |.agg cs=>zhy cs
 |.tup cs=>zhy cs
 |_=>false
def zhy:List AV->Bool
 |[]=>true
 |v::r=>jP v&&zhy r
end
mutual
theorem zj6{L L':Lk}{R R':Ro}:∀(v:AV)(V:Value),jP v=true->Rel L R v V->Rel L' R' v V
 |.int _ _,_,_,h=>h
 |.bool _,_,_,h=>h
 |.str _,_,_,h=>h
 |.nilp,_,_,h=>h
 |.nilf,_,_,h=>h
 |.nili,_,_,h=>h
 |.nilm,_,_,h=>h
 |.nils,_,_,h=>h
 |.agg cs,_,hp,⟨vs,h1,h2⟩=>⟨vs,h1,zbi cs vs (by simpa[jP]using hp) h2⟩
 |.tup cs,_,hp,⟨vs,h1,h2⟩=>⟨vs,h1,zbi cs vs (by simpa[jP]using hp) h2⟩
 |.undef,_,hp,_=>by simp[jP]at hp
 |.ptr _ _,_,hp,_=>by simp[jP]at hp
 |.ep _ _ _ _,_,hp,_=>by simp[jP]at hp
 |.rp _,_,hp,_=>by simp[jP]at hp
 |.rw _,_,hp,_=>by simp[jP]at hp
 |.rwp _,_,hp,_=>by simp[jP]at hp
 |.rwf _,_,hp,_=>by simp[jP]at hp
 |.pos _,_,hp,_=>by simp[jP]at hp
 |.rws _ _ _ _,_,hp,_=>by simp[jP]at hp
 |.rwc _ _ _ _,_,hp,_=>by simp[jP]at hp
 |.rob _ _,_,hp,_=>by simp[jP]at hp
 |.roi _ _ _,_,hp,_=>by simp[jP]at hp
 |.ros _ _,_,hp,_=>by simp[jP]at hp
 |.rov _ _ _,_,hp,_=>by simp[jP]at hp
 |.fn _ _ _,_,hp,_=>by simp[jP]at hp
 |.fns _ _,_,hp,_=>by simp[jP]at hp
 |.iface _ _,_,hp,_=>by simp[jP]at hp
 |.map _,_,hp,_=>by simp[jP]at hp
theorem zbi{L L':Lk}{R R':Ro}:∀(l:List AV)(vs:List Value),zhy l=true->RelL L R l vs->RelL L' R' l vs
 |[],_,_,h=>h
 |v::r,_,hp,⟨u,us,h1,h2,h3⟩=>by simp only[zhy,mF]at hp;exact⟨u,us,h1,zj6 v u hp.1 h2,zbi r us hp.2 h3⟩
end
mutual
def Y1(h:Heap):AV->AV
 |.rw i=>match hget h i with
  |some (.bytes _ l)=>.rob false l
  |some (.ints _ k l)=>.roi false k l
  |some (.strs _ l)=>.ros false l
  |some (.vals _ z l)=>.rov false z l
  |_=>.rw i
 |.agg cs=>.agg (qi h cs)
 |v=>v
def qi(h:Heap):List AV->List AV
 |[]=>[]
 |v::r=>Y1 h v::qi h r
end
def Vh:Heap->Bool
 |[]=>true
 |some (.bytes _ _)::r=>Vh r
 |some (.ints _ _ _)::r=>Vh r
 |some (.strs _ _)::r=>Vh r
 |some (.vals _ _ _)::r=>Vh r
 |_=>false
theorem Zh{w:World}{r:Res}{T:TypeId}{z k:Nat}{C:List Value->Prop}(h:RowAt w r T z k C){b:Nat}(j:b∈r.fp):∃o,w.heap[b]? =some o:=by
 rcases h with⟨J,H,B,I⟩|⟨J,H,B,cs,tl,fr,I,_⟩
 ·rw[B]at j;cases j
 ·rw[H,mL]at j;subst j;exact⟨_,I⟩
theorem zob:∀{h:Heap}{i:Nat}{o:AO}{L:Lk}{R:Ro}{r:Res}{w:World},Vh h=true->hget h i=some o->ObjRel L R r o w->∀b∈r.fp,∃ob,w.heap[b]? =some ob
 |[],i,o,_,_,_,_,_,ho,_=>by simp[hget]at ho
 |x::r,i,o,L,R,q,w,hr,ho,hob=>by
  cases i with
  |succ i=>refine zob (h:=r) (i:=i) ?_ ho hob;unfold Vh at hr;split at hr<;>first|(rename_i j;cases j;exact hr)|(rename_i j;cases j)|cases hr
  |zero=>
   have ho:x=some o:=by
    cases x with
    |none=>simp[hget]at ho
    |some y=>simpa[hget]using ho
   subst ho;intro b B;cases o with
   |bytes T l=>exact Zh (by simpa only[ObjRel]using hob) B
   |ints T k l=>exact Zh (by simpa only[ObjRel]using hob) B
   |strs T l=>exact Zh (by simpa only[ObjRel]using hob) B
   |vals T z l=>exact Zh hob.2 B
   |_=>simp[Vh]at hr
section
variable {R R' : Ro} {G : List Res} {h : Heap} {w : World} {L' : Lk}
mutual
theorem zhM(W:WRel R G h w)(H:∀b o,R b=some o->R' b=some o)(Z:∀b∈fpsAll G h,∀o,w.heap[b]? =some o->R' b=some o):
  ∀(v:AV)(V:Value),idsV (Y1 h v)=[]->Rel (look G h) R v V->Rel L' R' (Y1 h v) V
 |.rw i,V,hi,⟨f,h1,h2⟩=>by
  obtain⟨o,r,S,h4,rfl⟩:=zp h1;have I:=W.obj i o r S h4;have O:∀{T:TypeId}{z k:Nat}{C:List Value->Prop},RowAt w r T z k C->r.virt=false->r.fp=[r.b]->R' r.b=w.heap[r.b]? :=fun B hv J=>by obtain⟨ob,e⟩:=Zh B (b:=r.b) (by rw[J];simp);rw[e];exact Z r.b (zJ.2 ⟨i,r,⟨_,S⟩,h4,by rw[J];simp⟩) _ e
  simp only[Y1,S]at hi⊢;cases o with
  |bytes T l=>
   have B:RowAt w r T 1 l.length (fun cs=>cs=l.map u8V):=by simpa only[ObjRel]using I
   exact RowAt.sealed B h2 (O B)
  |ints T k l=>
   have B:RowAt w r T 1 l.length (fun cs=>cs=l.map (Value.int k)):=by simpa only[ObjRel]using I
   exact RowAt.sealed B h2 (O B)
  |strs T l=>
   have B:RowAt w r T 1 l.length (fun cs=>cs=l.map fun s=>Value.string (bs s)):=by simpa only[ObjRel]using I
   exact RowAt.sealed B h2 (O B)
  |vals T z l=>obtain⟨U,Y⟩:=I;exact⟨U,RoRow.mono (fun _ _ h=>h) (fun s hs=>zq H z l s (by simp[U]) hs) (RowAt.sealed Y h2 (O Y))⟩
  |_=>simp[idsV]at hi
 |.agg cs,V,hi,⟨vs,h1,h2⟩=>by simp only[Y1,idsV]at hi⊢;exact⟨vs,h1,QU W H Z cs vs hi h2⟩
 |.undef,V,hi,hv=>zn H .undef V (by simp[idsV]) hv
 |.int k n,V,hi,hv=>hv
 |.bool b,V,hi,hv=>hv
 |.str l,V,hi,hv=>hv
 |.nilp,V,hi,hv=>hv
 |.nilf,V,hi,hv=>hv
 |.nili,V,hi,hv=>hv
 |.nilm,V,hi,hv=>hv
 |.nils,V,hi,hv=>hv
 |.ptr i o,V,hi,hv=>by simp[Y1,idsV]at hi
 |.ep i z n o,V,hi,hv=>by simp[Y1,idsV]at hi
 |.rp v,V,hi,hv=>zn H (.rp v) V (fun i j=>by rw[show idsV (.rp v)=[]from hi]at j;cases j) hv
 |.rwp i,V,hi,hv=>by simp[Y1,idsV]at hi
 |.rwf i,V,hi,hv=>by simp[Y1,idsV]at hi
 |.pos k,V,hi,hv=>hv
 |.rws i z c n,V,hi,hv=>by simp[Y1,idsV]at hi
 |.rwc i z c n,V,hi,hv=>by simp[Y1,idsV]at hi
 |.rob f l,V,hi,hv=>zn H (.rob f l) V (fun i j=>by rw[show idsV (.rob f l)=[]from hi]at j;cases j) hv
 |.roi f k l,V,hi,hv=>zn H (.roi f k l) V (fun i j=>by rw[show idsV (.roi f k l)=[]from hi]at j;cases j) hv
 |.ros f l,V,hi,hv=>zn H (.ros f l) V (fun i j=>by rw[show idsV (.ros f l)=[]from hi]at j;cases j) hv
 |.rov f z l,V,hi,hv=>zn H (.rov f z l) V (fun i j=>by rw[show idsV (.rov f z l)=[]from hi]at j;cases j) hv
 |.fn f a c,V,hi,hv=>zn H (.fn f a c) V (fun i j=>by rw[show idsV (.fn f a c)=[]from hi]at j;cases j) hv
 |.fns n fs,V,hi,hv=>hv
 |.tup vs,V,hi,hv=>zn H (.tup vs) V (fun i j=>by rw[show idsV (.tup vs)=[]from hi]at j;cases j) hv
 |.iface t v,V,hi,hv=>zn H (.iface t v) V (fun i j=>by rw[show idsV (.iface t v)=[]from hi]at j;cases j) hv
 |.map i,V,hi,hv=>by simp[Y1,idsV]at hi
theorem QU(W:WRel R G h w)(j:∀b o,R b=some o->R' b=some o)(B:∀b∈fpsAll G h,∀o,w.heap[b]? =some o->R' b=some o):
  ∀(l:List AV)(vs:List Value),idsL (qi h l)=[]->RelL (look G h) R l vs->RelL L' R' (qi h l) vs
 |[],_,_,hv=>hv
 |v::r,_,hi,⟨u,us,h1,h2,h3⟩=>by simp only[qi,idsL,uAg]at hi;exact⟨u,us,h1,zhM W j B v u hi.1 h2,QU W j B r us hi.2 h3⟩
end
end
def zCC(C:Con):Con:=Con6.c {
 f:=C.f
 A:=Heap×C.A
 B:=C.B
 dec:=fun j h=>match Vh h,zS (idsL (qi h j))with
  |true,true=>match C.dec (qi h j) []with
   |some x=>some (h,x)
   |none=>none
  |_,_=>none
 spec:=fun x=>C.spec x.2
 enc:=fun x r=>⟨(C.enc x.2 r).v,x.1⟩}
theorem zro{P:Program}{GP:Ro->Prop}{C:Con}(hst:Stays GP)(hC:SoundC P GP C)(hp:∀x r,(C.enc x r).h=[]/\jP (C.enc x r).v=true):SoundC P GP (zCC C):=by
 intro H h y r hd hs;have hd:(match Vh h,zS (idsL (qi h H))with
  |true,true=>match C.dec (qi h H) []with
   |some x=>some (h,x)
   |none=>none
  |_,_=>none)=some y:=hd
 split at hd
 ·rename_i hrows I;split at hd
  ·rename_i x hx;cases hd;have I:idsL (qi h H)=[]:=by
    cases hh:idsL (qi h H)with
    |nil=>rfl
    |cons a b=>rw[hh]at I;cases I
   obtain⟨hen,Z⟩:=hC _ [] x r hx hs;refine⟨hen,fun R G w vs hGP W hargs=>?_⟩;have hno:∀b,b∈fpsAll G h->R b=none:=fun b B=>by obtain⟨i,q,S,Y,hq⟩:=zJ.1 B;exact W.sepR i q S Y b hq
   let R':Ro:=fun b=>if b∈fpsAll G h then w.heap[b]? else R b
   have hR:∀b o,R b=some o->R' b=some o:=fun b o B=>by show(if b∈fpsAll G h then w.heap[b]? else R b)=some o;rw[if_neg (fun O=>by rw[hno b O]at B;cases B)];exact B
   have hf:∀b∈fpsAll G h,∀o,w.heap[b]? =some o->R' b=some o:=fun b B o ho=>by show(if b∈fpsAll G h then w.heap[b]? else R b)=some o;rw[if_pos B];exact ho
   have hro:∀b o,R' b=some o->w.heap[b]? =some o:=fun b o B=>by
    have B:(if b∈fpsAll G h then w.heap[b]? else R b)=some o:=B;split at B
    ·exact B
    ·exact W.ro b o B
   have W':WRel R' [] [] w:=⟨rfl,fun i o q ho=>by simp[hget]at ho,fun i j ri rj _ S=>by obtain⟨o,ho⟩:=S;simp[hget]at ho,fun i q S=>by obtain⟨o,ho⟩:=S;simp[hget]at ho,hro⟩
   refine(Z R' [] w vs (hst R R' hR hGP) W' (QU W hR hf H vs I hargs)).mono fun e w' ⟨V,R2,G2,he,hW2,J,hV⟩=>?_
   obtain⟨hh,hpl⟩:=hp x r;have hsame:∀b∈fpsAll G h,∀o,w.heap[b]? =some o->w'.heap[b]? =some o:=fun b B o ho=>hW2.ro b o (J.rsub b o (hf b B o ho))
   let R3:Ro:=fun b=>if b∈fpsAll G h then none else R2 b
   have hR3:∀b o,R3 b=some o->b∉fpsAll G h/\R2 b=some o:=fun b o B=>by
    have B:(if b∈fpsAll G h then none else R2 b)=some o:=B;split at B
    ·cases B
    ·rename_i O;exact⟨O,B⟩
   have U:∀b o,R b=some o->R3 b=some o:=fun b o B=>by show(if b∈fpsAll G h then none else R2 b)=some o;rw[if_neg (fun O=>by rw[hno b O]at B;cases B)];exact J.rsub b o (hR b o B)
   refine⟨V,R3,G,he,⟨W.len,fun i o q ho Y=>?_,W.sep,fun i q S Y b B=>?_,fun b o B=>hW2.ro b o (hR3 b o B).2⟩,⟨J.keeps.wide,U,fun b B=>?_,fun i q b S Y B=>.inl (zJ.2 ⟨i,q,S,Y,B⟩),fun i _ _=>rfl,mH _⟩,zj6 _ V hpl hV⟩
   ·have hob:=W.obj i o q ho Y;refine ObjRel.stable hob (fun b B=>?_) U (fun _ _ f hf=>hf);obtain⟨ob,e⟩:=zob hrows ho hob b B;rw[e];exact hsame b (zJ.2 ⟨i,q,⟨_,ho⟩,Y,B⟩) _ e
   ·show(if b∈fpsAll G h then none else R2 b)=none;have O:b∈fpsAll G h:=zJ.2 ⟨i,q,S,Y,B⟩;rw[if_pos O]
   ·rcases ho:R3 b with _|o
    ·exact absurd ho B
    ·obtain⟨O,h2⟩:=hR3 b o ho;rcases J.rnew b (by rw[h2];intro e;cases e)with h3|h3|h3
     ·left;intro hn;apply h3;show(if b∈fpsAll G h then w.heap[b]? else R b)=none;rw[if_neg O];exact hn
     ·cases h3
     ·exact .inr (.inr h3)
  ·cases hd
 ·cases hd
def zyc(C:Con):Con:=Con6.c {
 f:=C.f
 A:=Heap×C.A
 B:=C.B
 dec:=fun j h=>match Vh h,zS (idsL (qi h j))with
  |true,true=>match C.dec (qi h j) []with
   |some x=>some (h,x)
   |none=>none
  |_,_=>none
 spec:=fun x=>C.spec x.2
 enc:=fun x r=>⟨(C.enc x.2 r).v,x.1.map fun _=>none⟩}
theorem zia{P:Program}{GP:Ro->Prop}{C:Con}(hst:Stays GP)(hC:SoundC P GP C)(hp:∀x r,(C.enc x r).h=[]/\idsV (C.enc x r).v=[]):SoundC P GP (zyc C):=by
 intro B h y r Y hs;have Y:(match Vh h,zS (idsL (qi h B))with
  |true,true=>match C.dec (qi h B) []with
   |some x=>some (h,x)
   |none=>none
  |_,_=>none)=some y:=Y
 split at Y
 ·rename_i hrows I;split at Y
  ·rename_i x hx;cases Y;have I:idsL (qi h B)=[]:=by
    cases hh:idsL (qi h B)with
    |nil=>rfl
    |cons a b=>rw[hh]at I;cases I
   obtain⟨hen,S⟩:=hC _ [] x r hx hs;refine⟨hen,fun R G w vs hGP W hargs=>?_⟩;have hno:∀b,b∈fpsAll G h->R b=none:=fun b H=>by obtain⟨i,q,J,hg,hq⟩:=zJ.1 H;exact W.sepR i q J hg b hq
   let R':Ro:=fun b=>if b∈fpsAll G h then w.heap[b]? else R b
   have hR:∀b o,R b=some o->R' b=some o:=fun b o H=>by show(if b∈fpsAll G h then w.heap[b]? else R b)=some o;rw[if_neg (fun Z=>by rw[hno b Z]at H;cases H)];exact H
   have hf:∀b∈fpsAll G h,∀o,w.heap[b]? =some o->R' b=some o:=fun b H o ho=>by show(if b∈fpsAll G h then w.heap[b]? else R b)=some o;rw[if_pos H];exact ho
   have hro:∀b o,R' b=some o->w.heap[b]? =some o:=fun b o H=>by
    have H:(if b∈fpsAll G h then w.heap[b]? else R b)=some o:=H;split at H
    ·exact H
    ·exact W.ro b o H
   have W':WRel R' [] [] w:=⟨rfl,fun i o q ho=>by simp[hget]at ho,fun i j ri rj _ J=>by obtain⟨o,ho⟩:=J;simp[hget]at ho,fun i q J=>by obtain⟨o,ho⟩:=J;simp[hget]at ho,hro⟩
   refine(S R' [] w vs (hst R R' hR hGP) W' (QU W hR hf B vs I hargs)).mono fun e w' ⟨V,R2,G2,he,hW2,U,hV⟩=>?_
   obtain⟨hh,hpl⟩:=hp x r;have O:∀i o,hget (h.map fun _=>none) i=some o->False:=fun i o ho=>by unfold hget at ho;rw[nK]at ho;cases h[i]? <;>simp at ho
   have nl:∀i,¬live (h.map fun _=>none) i:=fun i ⟨o,ho⟩=>O i o ho
   refine⟨V,R2,G,he,⟨by show G.length=(h.map fun _=>none).length;rw[nN];exact W.len,fun i o q ho=>(O i o ho).elim,fun i j ri rj _ J=>(nl i J).elim,fun i q J=>(nl i J).elim,hW2.ro⟩,
    ⟨U.keeps.wide,fun b o H=>U.rsub b o (hR b o H),fun b H=>?_,fun i q b J=>(nl i J).elim,fun i _ J=>(nl i J).elim,by show h.length<=(h.map fun _=>none).length;rw[nN];exact mH _⟩,
    zn (fun _ _ h=>h) (C.enc x r).v V (fun i Z=>by rw[hpl]at Z;cases Z) hV⟩
   rcases U.rnew b H with h3|h3|h3
   ·by_cases Z:b∈fpsAll G h
    ·exact .inr (.inl Z)
    ·left;intro hn;apply h3;show(if b∈fpsAll G h then w.heap[b]? else R b)=none;rw[if_neg Z];exact hn
   ·cases h3
   ·exact .inr (.inr h3)
  ·cases Y
 ·cases Y
end Go.Am
