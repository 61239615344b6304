/-
  A part of the proof of the laws.
-/
import Derived.Test.YtodebhabandljaaGreatDoorAm14
namespace Go.Am
open Go Go.RowKit Go.Vc
mutual
def jz:AV->Bool
 |.int _ _|.bool _|.str _|.nilp|.nilf|.nili|.nilm|.nils=>true
 |.agg cs=>zeV cs
 |.tup cs=>zeV cs
 |_=>false
def zeV:List AV->Bool
 |[]=>true
 |v::r=>jz v&&zeV r
end
mutual
theorem zgF{L L':Lk}{R R':Ro}:∀(v:AV)(V:Value),jz v=true->Rel L R v V->Rel L' R' v V
 |.int _ _,_,_,h=>h
 |.bool _,_,_,h=>h
 |.str _,_,_,h=>h
 |.nilp,_,_,h=>h
 |.nilf,_,_,h=>h
 |.nili,_,_,h=>h
 |.nilm,_,_,h=>h
 |.nils,_,_,h=>h
 |.agg cs,_,hp,⟨vs,h1,h2⟩=>⟨vs,h1,KA cs vs (by simpa[jz]using hp) h2⟩
 |.tup cs,_,hp,⟨vs,h1,h2⟩=>⟨vs,h1,KA cs vs (by simpa[jz]using hp) h2⟩
 |.undef,_,hp,_=>by simp[jz]at hp
 |.ptr _ _,_,hp,_=>by simp[jz]at hp
 |.ep _ _ _ _,_,hp,_=>by simp[jz]at hp
 |.rp _,_,hp,_=>by simp[jz]at hp
 |.rw _,_,hp,_=>by simp[jz]at hp
 |.rwp _,_,hp,_=>by simp[jz]at hp
 |.rwf _,_,hp,_=>by simp[jz]at hp
 |.pos _,_,hp,_=>by simp[jz]at hp
 |.rws _ _ _ _,_,hp,_=>by simp[jz]at hp
 |.rwc _ _ _ _,_,hp,_=>by simp[jz]at hp
 |.rob _ _,_,hp,_=>by simp[jz]at hp
 |.roi _ _ _,_,hp,_=>by simp[jz]at hp
 |.ros _ _,_,hp,_=>by simp[jz]at hp
 |.rov _ _ _,_,hp,_=>by simp[jz]at hp
 |.fn _ _ _,_,hp,_=>by simp[jz]at hp
 |.fns _ _,_,hp,_=>by simp[jz]at hp
 |.iface _ _,_,hp,_=>by simp[jz]at hp
 |.map _,_,hp,_=>by simp[jz]at hp
theorem KA{L L':Lk}{R R':Ro}:∀(l:List AV)(vs:List Value),zeV l=true->RelL L R l vs->RelL L' R' l vs
 |[],_,_,h=>h
 |v::r,_,hp,⟨u,us,h1,h2,h3⟩=>by simp only[zeV,kY]at hp;exact⟨u,us,h1,zgF v u hp.1 h2,KA r us hp.2 h3⟩
end
mutual
def YZ(h:Heap):AV->AV
 |.rw i=>match hget h i with
  |some (.bytes _ l)=>.rob false l
  |some (.ints _ k l)=>.roi false k l
  |some (.strs _ l)=>.ros false l
  |some (.vals _ z l)=>.rov false z l
  |_=>.rw i
 |.agg cs=>.agg (q6 h cs)
 |v=>v
def q6(h:Heap):List AV->List AV
 |[]=>[]
 |v::r=>YZ h v::q6 h r
end
def Qr:Heap->Bool
 |[]=>true
 |some (.bytes _ _)::r=>Qr r
 |some (.ints _ _ _)::r=>Qr r
 |some (.strs _ _)::r=>Qr r
 |some (.vals _ _ _)::r=>Qr r
 |_=>false
theorem Vb{w:World}{r:Res}{T:TypeId}{z k:Nat}{C:List Value->Prop}(h:RowAt w r T z k C){b:Nat}(j:b∈r.fp):∃o,w.heap[b]? =some o:=by
 rcases h with⟨I,H,B,y⟩|⟨I,H,B,cs,tl,fr,y,_⟩
 ·rw[B]at j;cases j
 ·rw[H,mD]at j;subst j;exact⟨_,y⟩
theorem zkn:∀{h:Heap}{i:Nat}{o:AO}{L:Lk}{R:Ro}{r:Res}{w:World},Qr h=true->hget h i=some o->ObjRel L R r o w->∀b∈r.fp,∃ob,w.heap[b]? =some ob
 |[],i,o,_,_,_,_,_,ho,_=>by simp[hget]at ho
 |x::r,i,o,L,R,q,w,hr,ho,hob=>by
  cases i with
  |succ i=>refine zkn (h:=r) (i:=i) ?_ ho hob;unfold Qr at hr;split at hr<;>first|(rename_i j;cases j;exact hr)|(rename_i j;cases j)|cases hr
  |zero=>
   have ho:x=some o:=by
    cases x with
    |none=>simp[hget]at ho
    |some y=>simpa[hget]using ho
   subst ho;intro b B;cases o with
   |bytes T l=>exact Vb (by simpa only[ObjRel]using hob) B
   |ints T k l=>exact Vb (by simpa only[ObjRel]using hob) B
   |strs T l=>exact Vb (by simpa only[ObjRel]using hob) B
   |vals T z l=>exact Vb hob.2 B
   |_=>simp[Qr]at hr
section
variable {R R' : Ro} {G : List Res} {h : Heap} {w : World} {L' : Lk}
mutual
theorem zt1(W:WRel R G h w)(B:∀b o,R b=some o->R' b=some o)(U:∀b∈fpsAll G h,∀o,w.heap[b]? =some o->R' b=some o):
  ∀(v:AV)(V:Value),idsV (YZ h v)=[]->Rel (look G h) R v V->Rel L' R' (YZ h v) V
 |.rw i,V,hi,⟨f,h1,h2⟩=>by
  obtain⟨o,r,O,Z,rfl⟩:=zx h1;have H:=W.obj i o r O Z;have J:∀{T:TypeId}{z k:Nat}{C:List Value->Prop},RowAt w r T z k C->r.virt=false->r.fp=[r.b]->R' r.b=w.heap[r.b]? :=fun y hv I=>by obtain⟨ob,e⟩:=Vb y (b:=r.b) (by rw[I];simp);rw[e];exact U r.b (zO.2 ⟨i,r,⟨_,O⟩,Z,by rw[I];simp⟩) _ e
  simp only[YZ,O]at hi⊢;cases o with
  |bytes T l=>
   have y:RowAt w r T 1 l.length (fun cs=>cs=l.map u8V):=by simpa only[ObjRel]using H
   exact RowAt.sealed y h2 (J y)
  |ints T k l=>
   have y:RowAt w r T 1 l.length (fun cs=>cs=l.map (Value.int k)):=by simpa only[ObjRel]using H
   exact RowAt.sealed y h2 (J y)
  |strs T l=>
   have y:RowAt w r T 1 l.length (fun cs=>cs=l.map fun s=>Value.string (bs s)):=by simpa only[ObjRel]using H
   exact RowAt.sealed y h2 (J y)
  |vals T z l=>obtain⟨g1,g2⟩:=H;exact⟨g1,RoRow.mono (fun _ _ h=>h) (fun s hs=>zt B z l s (by simp[g1]) hs) (RowAt.sealed g2 h2 (J g2))⟩
  |_=>simp[idsV]at hi
 |.agg cs,V,hi,⟨vs,h1,h2⟩=>by simp only[YZ,idsV]at hi⊢;exact⟨vs,h1,XH W B U cs vs hi h2⟩
 |.undef,V,hi,hv=>zj B .undef V (by simp[idsV]) hv
 |.int k n,V,hi,hv=>hv
 |.bool b,V,hi,hv=>hv
 |.str l,V,hi,hv=>hv
 |.nilp,V,hi,hv=>hv
 |.nilf,V,hi,hv=>hv
 |.nili,V,hi,hv=>hv
 |.nilm,V,hi,hv=>hv
 |.nils,V,hi,hv=>hv
 |.ptr i o,V,hi,hv=>by simp[YZ,idsV]at hi
 |.ep i z n o,V,hi,hv=>by simp[YZ,idsV]at hi
 |.rp v,V,hi,hv=>zj B (.rp v) V (fun i j=>by rw[show idsV (.rp v)=[]from hi]at j;cases j) hv
 |.rwp i,V,hi,hv=>by simp[YZ,idsV]at hi
 |.rwf i,V,hi,hv=>by simp[YZ,idsV]at hi
 |.pos k,V,hi,hv=>hv
 |.rws i z c n,V,hi,hv=>by simp[YZ,idsV]at hi
 |.rwc i z c n,V,hi,hv=>by simp[YZ,idsV]at hi
 |.rob f l,V,hi,hv=>zj B (.rob f l) V (fun i j=>by rw[show idsV (.rob f l)=[]from hi]at j;cases j) hv
 |.roi f k l,V,hi,hv=>zj B (.roi f k l) V (fun i j=>by rw[show idsV (.roi f k l)=[]from hi]at j;cases j) hv
 |.ros f l,V,hi,hv=>zj B (.ros f l) V (fun i j=>by rw[show idsV (.ros f l)=[]from hi]at j;cases j) hv
 |.rov f z l,V,hi,hv=>zj B (.rov f z l) V (fun i j=>by rw[show idsV (.rov f z l)=[]from hi]at j;cases j) hv
 |.fn f a c,V,hi,hv=>zj B (.fn f a c) V (fun i j=>by rw[show idsV (.fn f a c)=[]from hi]at j;cases j) hv
 |.fns n fs,V,hi,hv=>hv
 |.tup vs,V,hi,hv=>zj B (.tup vs) V (fun i j=>by rw[show idsV (.tup vs)=[]from hi]at j;cases j) hv
 |.iface t v,V,hi,hv=>zj B (.iface t v) V (fun i j=>by rw[show idsV (.iface t v)=[]from hi]at j;cases j) hv
 |.map i,V,hi,hv=>by simp[YZ,idsV]at hi
theorem XH(W:WRel R G h w)(y:∀b o,R b=some o->R' b=some o)(j:∀b∈fpsAll G h,∀o,w.heap[b]? =some o->R' b=some o):
  ∀(l:List AV)(vs:List Value),idsL (q6 h l)=[]->RelL (look G h) R l vs->RelL L' R' (q6 h l) vs
 |[],_,_,hv=>hv
 |v::r,_,hi,⟨u,us,h1,h2,h3⟩=>by simp only[q6,idsL,uAd]at hi;exact⟨u,us,h1,zt1 W y j v u hi.1 h2,XH W y j r us hi.2 h3⟩
end
end
def zt2(C:Con):Con:=Con6.c {
 f:=C.f
 A:=Heap×C.A
 B:=C.B
 dec:=fun j h=>match Qr h,zW (idsL (q6 h j))with
  |true,true=>match C.dec (q6 h j) []with
   |some x=>some (h,x)
   |none=>none
  |_,_=>none
 spec:=fun x=>C.spec x.2
 enc:=fun x r=>⟨(C.enc x.2 r).v,x.1⟩}
theorem ze2{P:Program}{GP:Ro->Prop}{C:Con}(hst:Stays GP)(hC:SoundC P GP C)(hp:∀x r,(C.enc x r).h=[]/\jz (C.enc x r).v=true):SoundC P GP (zt2 C):=by
 intro H h y r hd hs;have hd:(match Qr h,zW (idsL (q6 h H))with
  |true,true=>match C.dec (q6 h H) []with
   |some x=>some (h,x)
   |none=>none
  |_,_=>none)=some y:=hd
 split at hd
 ·rename_i hrows I;split at hd
  ·rename_i x hx;cases hd;have I:idsL (q6 h H)=[]:=by
    cases hh:idsL (q6 h H)with
    |nil=>rfl
    |cons a b=>rw[hh]at I;cases I
   obtain⟨hen,hcall⟩:=hC _ [] x r hx hs;refine⟨hen,fun R G w vs hGP W hargs=>?_⟩;have hno:∀b,b∈fpsAll G h->R b=none:=fun b B=>by obtain⟨i,q,J,Z,hq⟩:=zO.1 B;exact W.sepR i q J Z b hq
   let R':Ro:=fun b=>if b∈fpsAll G h then w.heap[b]? else R b
   have hR:∀b o,R b=some o->R' b=some o:=fun b o B=>by show(if b∈fpsAll G h then w.heap[b]? else R b)=some o;rw[if_neg (fun U=>by rw[hno b U]at B;cases B)];exact B
   have hf:∀b∈fpsAll G h,∀o,w.heap[b]? =some o->R' b=some o:=fun b B o ho=>by show(if b∈fpsAll G h then w.heap[b]? else R b)=some o;rw[if_pos B];exact ho
   have hro:∀b o,R' b=some o->w.heap[b]? =some o:=fun b o B=>by
    have B:(if b∈fpsAll G h then w.heap[b]? else R b)=some o:=B;split at B
    ·exact B
    ·exact W.ro b o B
   have W':WRel R' [] [] w:=⟨rfl,fun i o q ho=>by simp[hget]at ho,fun i j ri rj _ J=>by obtain⟨o,ho⟩:=J;simp[hget]at ho,fun i q J=>by obtain⟨o,ho⟩:=J;simp[hget]at ho,hro⟩
   refine(hcall R' [] w vs (hst R R' hR hGP) W' (XH W hR hf H vs I hargs)).mono fun e w' ⟨V,R2,G2,he,hW2,O,hV⟩=>?_
   obtain⟨hh,hpl⟩:=hp x r;have hsame:∀b∈fpsAll G h,∀o,w.heap[b]? =some o->w'.heap[b]? =some o:=fun b B o ho=>hW2.ro b o (O.rsub b o (hf b B o ho))
   let R3:Ro:=fun b=>if b∈fpsAll G h then none else R2 b
   have hR3:∀b o,R3 b=some o->b∉fpsAll G h/\R2 b=some o:=fun b o B=>by
    have B:(if b∈fpsAll G h then none else R2 b)=some o:=B;split at B
    ·cases B
    ·rename_i U;exact⟨U,B⟩
   have hsub:∀b o,R b=some o->R3 b=some o:=fun b o B=>by show(if b∈fpsAll G h then none else R2 b)=some o;rw[if_neg (fun U=>by rw[hno b U]at B;cases B)];exact O.rsub b o (hR b o B)
   refine⟨V,R3,G,he,⟨W.len,fun i o q ho Z=>?_,W.sep,fun i q J Z b B=>?_,fun b o B=>hW2.ro b o (hR3 b o B).2⟩,⟨O.keeps.wide,hsub,fun b B=>?_,fun i q b J Z B=>.inl (zO.2 ⟨i,q,J,Z,B⟩),fun i _ _=>rfl,mA _⟩,zgF _ V hpl hV⟩
   ·have hob:=W.obj i o q ho Z;refine ObjRel.stable hob (fun b B=>?_) hsub (fun _ _ f hf=>hf);obtain⟨ob,e⟩:=zkn hrows ho hob b B;rw[e];exact hsame b (zO.2 ⟨i,q,⟨_,ho⟩,Z,B⟩) _ e
   ·show(if b∈fpsAll G h then none else R2 b)=none;have U:b∈fpsAll G h:=zO.2 ⟨i,q,J,Z,B⟩;rw[if_pos U]
   ·rcases ho:R3 b with _|o
    ·exact absurd ho B
    ·obtain⟨U,h2⟩:=hR3 b o ho;rcases O.rnew b (by rw[h2];intro e;cases e)with h3|h3|h3
     ·left;intro hn;apply h3;show(if b∈fpsAll G h then w.heap[b]? else R b)=none;rw[if_neg U];exact hn
     ·cases h3
     ·exact .inr (.inr h3)
  ·cases hd
 ·cases hd
def zzp(C:Con):Con:=Con6.c {
 f:=C.f
 A:=Heap×C.A
 B:=C.B
 dec:=fun j h=>match Qr h,zW (idsL (q6 h j))with
  |true,true=>match C.dec (q6 h j) []with
   |some x=>some (h,x)
   |none=>none
  |_,_=>none
 spec:=fun x=>C.spec x.2
 enc:=fun x r=>⟨(C.enc x.2 r).v,x.1.map fun _=>none⟩}
theorem zm1{P:Program}{GP:Ro->Prop}{C:Con}(hst:Stays GP)(hC:SoundC P GP C)(hp:∀x r,(C.enc x r).h=[]/\idsV (C.enc x r).v=[]):SoundC P GP (zzp C):=by
 intro B h y r U hs;have U:(match Qr h,zW (idsL (q6 h B))with
  |true,true=>match C.dec (q6 h B) []with
   |some x=>some (h,x)
   |none=>none
  |_,_=>none)=some y:=U
 split at U
 ·rename_i hrows I;split at U
  ·rename_i x hx;cases U;have I:idsL (q6 h B)=[]:=by
    cases hh:idsL (q6 h B)with
    |nil=>rfl
    |cons a b=>rw[hh]at I;cases I
   obtain⟨hen,hcall⟩:=hC _ [] x r hx hs;refine⟨hen,fun R G w vs hGP W hargs=>?_⟩;have hno:∀b,b∈fpsAll G h->R b=none:=fun b H=>by obtain⟨i,q,J,hg,hq⟩:=zO.1 H;exact W.sepR i q J hg b hq
   let R':Ro:=fun b=>if b∈fpsAll G h then w.heap[b]? else R b
   have hR:∀b o,R b=some o->R' b=some o:=fun b o H=>by show(if b∈fpsAll G h then w.heap[b]? else R b)=some o;rw[if_neg (fun hm=>by rw[hno b hm]at H;cases H)];exact H
   have hf:∀b∈fpsAll G h,∀o,w.heap[b]? =some o->R' b=some o:=fun b H o ho=>by show(if b∈fpsAll G h then w.heap[b]? else R b)=some o;rw[if_pos H];exact ho
   have hro:∀b o,R' b=some o->w.heap[b]? =some o:=fun b o H=>by
    have H:(if b∈fpsAll G h then w.heap[b]? else R b)=some o:=H;split at H
    ·exact H
    ·exact W.ro b o H
   have W':WRel R' [] [] w:=⟨rfl,fun i o q ho=>by simp[hget]at ho,fun i j ri rj _ J=>by obtain⟨o,ho⟩:=J;simp[hget]at ho,fun i q J=>by obtain⟨o,ho⟩:=J;simp[hget]at ho,hro⟩
   refine(hcall R' [] w vs (hst R R' hR hGP) W' (XH W hR hf B vs I hargs)).mono fun e w' ⟨V,R2,G2,he,hW2,Z,hV⟩=>?_
   obtain⟨hh,hpl⟩:=hp x r;have O:∀i o,hget (h.map fun _=>none) i=some o->False:=fun i o ho=>by unfold hget at ho;rw[mX]at ho;cases h[i]? <;>simp at ho
   have nl:∀i,¬live (h.map fun _=>none) i:=fun i ⟨o,ho⟩=>O i o ho
   refine⟨V,R2,G,he,⟨by show G.length=(h.map fun _=>none).length;rw[mE];exact W.len,fun i o q ho=>(O i o ho).elim,fun i j ri rj _ J=>(nl i J).elim,fun i q J=>(nl i J).elim,hW2.ro⟩,
    ⟨Z.keeps.wide,fun b o H=>Z.rsub b o (hR b o H),fun b H=>?_,fun i q b J=>(nl i J).elim,fun i _ J=>(nl i J).elim,by show h.length<=(h.map fun _=>none).length;rw[mE];exact mA _⟩,
    zj (fun _ _ h=>h) (C.enc x r).v V (fun i hm=>by rw[hpl]at hm;cases hm) hV⟩
   rcases Z.rnew b H with h3|h3|h3
   ·by_cases hm:b∈fpsAll G h
    ·exact .inr (.inl hm)
    ·left;intro hn;apply h3;show(if b∈fpsAll G h then w.heap[b]? else R b)=none;rw[if_neg hm];exact hn
   ·cases h3
   ·exact .inr (.inr h3)
  ·cases U
 ·cases U
end Go.Am
