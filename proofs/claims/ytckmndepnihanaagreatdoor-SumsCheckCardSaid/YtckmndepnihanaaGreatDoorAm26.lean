/-
  A part of the proof of the laws.
-/
import Derived.Test.YtckmndepnihanaaGreatDoorAm14
namespace Go.Am
open Go Go.RowKit Go.Vc
mutual
def ju:AV→Bool
 |.int _ _|.bool _|.str _|.nilp|.nilf|.nili|.nilm|.nils=>true
 |.agg cs=>zcY cs
 |.tup cs=>zcY cs
 |_=>false
def zcY:List AV→Bool
 |[]=>true
 |v::r=>ju v&&zcY r
end
mutual
theorem zeN{L L':Lk}{R R':Ro}:∀(v:AV)(V:Value),ju v=true→Rel L R v V→Rel L' R' v V
 |.int _ _,_,_,h=>h
 |.bool _,_,_,h=>h
 |.str _,_,_,h=>h
 |.nilp,_,_,h=>h
 |.nilf,_,_,h=>h
 |.nili,_,_,h=>h
 |.nilm,_,_,h=>h
 |.nils,_,_,h=>h
 |.agg cs,_,hp,⟨vs,h1,h2⟩=>⟨vs,h1,XE cs vs (by simpa[ju]using hp) h2⟩
 |.tup cs,_,hp,⟨vs,h1,h2⟩=>⟨vs,h1,XE cs vs (by simpa[ju]using hp) h2⟩
 |.undef,_,hp,_=>by simp[ju]at hp
 |.ptr _ _,_,hp,_=>by simp[ju]at hp
 |.ep _ _ _ _,_,hp,_=>by simp[ju]at hp
 |.rp _,_,hp,_=>by simp[ju]at hp
 |.rw _,_,hp,_=>by simp[ju]at hp
 |.rwp _,_,hp,_=>by simp[ju]at hp
 |.rwf _,_,hp,_=>by simp[ju]at hp
 |.pos _,_,hp,_=>by simp[ju]at hp
 |.rws _ _ _ _,_,hp,_=>by simp[ju]at hp
 |.rwc _ _ _ _,_,hp,_=>by simp[ju]at hp
 |.rob _ _,_,hp,_=>by simp[ju]at hp
 |.roi _ _ _,_,hp,_=>by simp[ju]at hp
 |.ros _ _,_,hp,_=>by simp[ju]at hp
 |.rov _ _ _,_,hp,_=>by simp[ju]at hp
 |.fn _ _ _,_,hp,_=>by simp[ju]at hp
 |.fns _ _,_,hp,_=>by simp[ju]at hp
 |.iface _ _,_,hp,_=>by simp[ju]at hp
 |.map _,_,hp,_=>by simp[ju]at hp
theorem XE{L L':Lk}{R R':Ro}:∀(l:List AV)(vs:List Value),zcY l=true→RelL L R l vs→RelL L' R' l vs
 |[],_,_,h=>h
 |v::r,_,hp,⟨u,us,h1,h2,h3⟩=>by simp only[zcY,Bool.and_eq_true]at hp;exact⟨u,us,h1,zeN v u hp.1 h2,XE r us hp.2 h3⟩
end
mutual
def Yo(h:Heap):AV→AV
 |.rw i=>match hget h i with
  |some (.bytes _ l)=>.rob false l
  |some (.ints _ k l)=>.roi false k l
  |some (.strs _ l)=>.ros false l
  |some (.vals _ z l)=>.rov false z l
  |_=>.rw i
 |.agg cs=>.agg (qP h cs)
 |v=>v
def qP(h:Heap):List AV→List AV
 |[]=>[]
 |v::r=>Yo h v::qP h r
end
def YL:Heap→Bool
 |[]=>true
 |some (.bytes _ _)::r=>YL r
 |some (.ints _ _ _)::r=>YL r
 |some (.strs _ _)::r=>YL r
 |some (.vals _ _ _)::r=>YL r
 |_=>false
theorem X5{w:World}{r:Res}{T:TypeId}{z k:Nat}{C:List Value→Prop}(h:RowAt w r T z k C){b:Nat}(hb:b∈r.fp):∃o,w.heap[b]? =some o:=by
 rcases h with⟨h1,h2,h3,h4⟩|⟨h1,h2,h3,cs,tl,fr,h4,_⟩
 ·rw[h3]at hb;cases hb
 ·rw[h2,List.mem_singleton]at hb;subst hb;exact⟨_,h4⟩
theorem zij:∀{h:Heap}{i:Nat}{o:AO}{L:Lk}{R:Ro}{r:Res}{w:World},YL h=true→hget h i=some o→ObjRel L R r o w→∀b∈r.fp,∃ob,w.heap[b]? =some ob
 |[],i,o,_,_,_,_,_,ho,_=>by simp[hget]at ho
 |x::r,i,o,L,R,q,w,hr,ho,hob=>by
  cases i with
  |succ i=>refine zij (h:=r) (i:=i) ?_ ho hob;unfold YL at hr;split at hr<;>first|(rename_i heq;cases heq;exact hr)|(rename_i heq;cases heq)|cases hr
  |zero=>
   have ho:x=some o:=by
    cases x with
    |none=>simp[hget]at ho
    |some y=>simpa[hget]using ho
   subst ho;intro b hb;cases o with
   |bytes T l=>exact X5 (by simpa only[ObjRel]using hob) hb
   |ints T k l=>exact X5 (by simpa only[ObjRel]using hob) hb
   |strs T l=>exact X5 (by simpa only[ObjRel]using hob) hb
   |vals T z l=>exact X5 hob.2 hb
   |_=>simp[YL]at hr
section
variable {R R' : Ro} {G : List Res} {h : Heap} {w : World} {L' : Lk}
mutual
theorem zrk(W:WRel R G h w)(hR:∀b o,R b=some o→R' b=some o)(hf:∀b∈fpsAll G h,∀o,w.heap[b]? =some o→R' b=some o):
  ∀(v:AV)(V:Value),idsV (Yo h v)=[]→Rel (look G h) R v V→Rel L' R' (Yo h v) V
 |.rw i,V,hi,⟨f,h1,h2⟩=>by
  obtain⟨o,r,h3,h4,rfl⟩:=zr h1;have hob:=W.obj i o r h3 h4;have hS:∀{T:TypeId}{z k:Nat}{C:List Value→Prop},RowAt w r T z k C→r.virt=false→r.fp=[r.b]→R' r.b=w.heap[r.b]? :=fun hra hv hfp=>by obtain⟨ob,e⟩:=X5 hra (b:=r.b) (by rw[hfp];simp);rw[e];exact hf r.b (jk.2 ⟨i,r,⟨_,h3⟩,h4,by rw[hfp];simp⟩) _ e
  simp only[Yo,h3]at hi⊢;cases o with
  |bytes T l=>
   have hra:RowAt w r T 1 l.length (fun cs=>cs=l.map u8V):=by simpa only[ObjRel]using hob
   exact RowAt.sealed hra h2 (hS hra)
  |ints T k l=>
   have hra:RowAt w r T 1 l.length (fun cs=>cs=l.map (Value.int k)):=by simpa only[ObjRel]using hob
   exact RowAt.sealed hra h2 (hS hra)
  |strs T l=>
   have hra:RowAt w r T 1 l.length (fun cs=>cs=l.map fun s=>Value.string (bs s)):=by simpa only[ObjRel]using hob
   exact RowAt.sealed hra h2 (hS hra)
  |vals T z l=>obtain⟨g1,g2⟩:=hob;exact⟨g1,RoRow.mono (fun _ _ h=>h) (fun s hs=>zq hR z l s (by simp[g1]) hs) (RowAt.sealed g2 h2 (hS g2))⟩
  |_=>simp[idsV]at hi
 |.agg cs,V,hi,⟨vs,h1,h2⟩=>by simp only[Yo,idsV]at hi⊢;exact⟨vs,h1,QU W hR hf cs vs hi h2⟩
 |.undef,V,hi,hv=>zk hR .undef V (by simp[idsV]) hv
 |.int k n,V,hi,hv=>hv
 |.bool b,V,hi,hv=>hv
 |.str l,V,hi,hv=>hv
 |.nilp,V,hi,hv=>hv
 |.nilf,V,hi,hv=>hv
 |.nili,V,hi,hv=>hv
 |.nilm,V,hi,hv=>hv
 |.nils,V,hi,hv=>hv
 |.ptr i o,V,hi,hv=>by simp[Yo,idsV]at hi
 |.ep i z n o,V,hi,hv=>by simp[Yo,idsV]at hi
 |.rp v,V,hi,hv=>zk hR (.rp v) V (fun i hm=>by rw[show idsV (.rp v)=[]from hi]at hm;cases hm) hv
 |.rwp i,V,hi,hv=>by simp[Yo,idsV]at hi
 |.rwf i,V,hi,hv=>by simp[Yo,idsV]at hi
 |.pos k,V,hi,hv=>hv
 |.rws i z c n,V,hi,hv=>by simp[Yo,idsV]at hi
 |.rwc i z c n,V,hi,hv=>by simp[Yo,idsV]at hi
 |.rob f l,V,hi,hv=>zk hR (.rob f l) V (fun i hm=>by rw[show idsV (.rob f l)=[]from hi]at hm;cases hm) hv
 |.roi f k l,V,hi,hv=>zk hR (.roi f k l) V (fun i hm=>by rw[show idsV (.roi f k l)=[]from hi]at hm;cases hm) hv
 |.ros f l,V,hi,hv=>zk hR (.ros f l) V (fun i hm=>by rw[show idsV (.ros f l)=[]from hi]at hm;cases hm) hv
 |.rov f z l,V,hi,hv=>zk hR (.rov f z l) V (fun i hm=>by rw[show idsV (.rov f z l)=[]from hi]at hm;cases hm) hv
 |.fn f a c,V,hi,hv=>zk hR (.fn f a c) V (fun i hm=>by rw[show idsV (.fn f a c)=[]from hi]at hm;cases hm) hv
 |.fns n fs,V,hi,hv=>hv
 |.tup vs,V,hi,hv=>zk hR (.tup vs) V (fun i hm=>by rw[show idsV (.tup vs)=[]from hi]at hm;cases hm) hv
 |.iface t v,V,hi,hv=>zk hR (.iface t v) V (fun i hm=>by rw[show idsV (.iface t v)=[]from hi]at hm;cases hm) hv
 |.map i,V,hi,hv=>by simp[Yo,idsV]at hi
theorem QU(W:WRel R G h w)(hR:∀b o,R b=some o→R' b=some o)(hf:∀b∈fpsAll G h,∀o,w.heap[b]? =some o→R' b=some o):
  ∀(l:List AV)(vs:List Value),idsL (qP h l)=[]→RelL (look G h) R l vs→RelL L' R' (qP h l) vs
 |[],_,_,hv=>hv
 |v::r,_,hi,⟨u,us,h1,h2,h3⟩=>by simp only[qP,idsL,List.append_eq_nil_iff]at hi;exact⟨u,us,h1,zrk W hR hf v u hi.1 h2,QU W hR hf r us hi.2 h3⟩
end
end
def zwa(C:Con):Con:=Con6.c {
 f:=C.f
 A:=Heap×C.A
 B:=C.B
 dec:=fun args h=>match YL h,zR (idsL (qP h args))with
  |true,true=>match C.dec (qP h args) []with
   |some x=>some (h,x)
   |none=>none
  |_,_=>none
 spec:=fun x=>C.spec x.2
 enc:=fun x r=>⟨(C.enc x.2 r).v,x.1⟩}
theorem zku{P:Program}{GP:Ro→Prop}{C:Con}(hst:Stays GP)(hC:SoundC P GP C)(hp:∀x r,(C.enc x r).h=[]∧ju (C.enc x r).v=true):SoundC P GP (zwa C):=by
 intro args h y r hd hs;have hd:(match YL h,zR (idsL (qP h args))with
  |true,true=>match C.dec (qP h args) []with
   |some x=>some (h,x)
   |none=>none
  |_,_=>none)=some y:=hd
 split at hd
 ·rename_i hrows hids;split at hd
  ·rename_i x hx;cases hd;have hids:idsL (qP h args)=[]:=by
    cases hh:idsL (qP h args)with
    |nil=>rfl
    |cons a b=>rw[hh]at hids;cases hids
   obtain⟨hen,hcall⟩:=hC _ [] x r hx hs;refine⟨hen,fun R G w vs hGP W hargs=>?_⟩;have hno:∀b,b∈fpsAll G h→R b=none:=fun b hb=>by obtain⟨i,q,hl,hg,hq⟩:=jk.1 hb;exact W.sepR i q hl hg b hq
   let R':Ro:=fun b=>if b∈fpsAll G h then w.heap[b]? else R b
   have hR:∀b o,R b=some o→R' b=some o:=fun b o hb=>by show(if b∈fpsAll G h then w.heap[b]? else R b)=some o;rw[if_neg (fun hm=>by rw[hno b hm]at hb;cases hb)];exact hb
   have hf:∀b∈fpsAll G h,∀o,w.heap[b]? =some o→R' b=some o:=fun b hb o ho=>by show(if b∈fpsAll G h then w.heap[b]? else R b)=some o;rw[if_pos hb];exact ho
   have hro:∀b o,R' b=some o→w.heap[b]? =some o:=fun b o hb=>by
    have hb:(if b∈fpsAll G h then w.heap[b]? else R b)=some o:=hb;split at hb
    ·exact hb
    ·exact W.ro b o hb
   have W':WRel R' [] [] w:=⟨rfl,fun i o q ho=>by simp[hget]at ho,fun i j ri rj _ hl=>by obtain⟨o,ho⟩:=hl;simp[hget]at ho,fun i q hl=>by obtain⟨o,ho⟩:=hl;simp[hget]at ho,hro⟩
   refine(hcall R' [] w vs (hst R R' hR hGP) W' (QU W hR hf args vs hids hargs)).mono fun e w' ⟨V,R2,G2,he,hW2,hs2,hV⟩=>?_
   obtain⟨hh,hpl⟩:=hp x r;have hsame:∀b∈fpsAll G h,∀o,w.heap[b]? =some o→w'.heap[b]? =some o:=fun b hb o ho=>hW2.ro b o (hs2.rsub b o (hf b hb o ho))
   let R3:Ro:=fun b=>if b∈fpsAll G h then none else R2 b
   have hR3:∀b o,R3 b=some o→b∉fpsAll G h∧R2 b=some o:=fun b o hb=>by
    have hb:(if b∈fpsAll G h then none else R2 b)=some o:=hb;split at hb
    ·cases hb
    ·rename_i hm;exact⟨hm,hb⟩
   have hsub:∀b o,R b=some o→R3 b=some o:=fun b o hb=>by show(if b∈fpsAll G h then none else R2 b)=some o;rw[if_neg (fun hm=>by rw[hno b hm]at hb;cases hb)];exact hs2.rsub b o (hR b o hb)
   refine⟨V,R3,G,he,⟨W.len,fun i o q ho hg=>?_,W.sep,fun i q hl hg b hb=>?_,fun b o hb=>hW2.ro b o (hR3 b o hb).2⟩,⟨hs2.keeps.wide,hsub,fun b hb=>?_,fun i q b hl hg hb=>.inl (jk.2 ⟨i,q,hl,hg,hb⟩),fun i _ _=>rfl,Nat.le_refl _⟩,zeN _ V hpl hV⟩
   ·have hob:=W.obj i o q ho hg;refine ObjRel.stable hob (fun b hb=>?_) hsub (fun _ _ f hf=>hf);obtain⟨ob,e⟩:=zij hrows ho hob b hb;rw[e];exact hsame b (jk.2 ⟨i,q,⟨_,ho⟩,hg,hb⟩) _ e
   ·show(if b∈fpsAll G h then none else R2 b)=none;have hm:b∈fpsAll G h:=jk.2 ⟨i,q,hl,hg,hb⟩;rw[if_pos hm]
   ·rcases ho:R3 b with _|o
    ·exact absurd ho hb
    ·obtain⟨hm,h2⟩:=hR3 b o ho;rcases hs2.rnew b (by rw[h2];intro e;cases e)with h3|h3|h3
     ·left;intro hn;apply h3;show(if b∈fpsAll G h then w.heap[b]? else R b)=none;rw[if_neg hm];exact hn
     ·cases h3
     ·exact .inr (.inr h3)
  ·cases hd
 ·cases hd
def zwh(C:Con):Con:=Con6.c {
 f:=C.f
 A:=Heap×C.A
 B:=C.B
 dec:=fun args h=>match YL h,zR (idsL (qP h args))with
  |true,true=>match C.dec (qP h args) []with
   |some x=>some (h,x)
   |none=>none
  |_,_=>none
 spec:=fun x=>C.spec x.2
 enc:=fun x r=>⟨(C.enc x.2 r).v,x.1.map fun _=>none⟩}
theorem zkA{P:Program}{GP:Ro→Prop}{C:Con}(hst:Stays GP)(hC:SoundC P GP C)(hp:∀x r,(C.enc x r).h=[]∧idsV (C.enc x r).v=[]):SoundC P GP (zwh C):=by
 intro args h y r hd hs;have hd:(match YL h,zR (idsL (qP h args))with
  |true,true=>match C.dec (qP h args) []with
   |some x=>some (h,x)
   |none=>none
  |_,_=>none)=some y:=hd
 split at hd
 ·rename_i hrows hids;split at hd
  ·rename_i x hx;cases hd;have hids:idsL (qP h args)=[]:=by
    cases hh:idsL (qP h args)with
    |nil=>rfl
    |cons a b=>rw[hh]at hids;cases hids
   obtain⟨hen,hcall⟩:=hC _ [] x r hx hs;refine⟨hen,fun R G w vs hGP W hargs=>?_⟩;have hno:∀b,b∈fpsAll G h→R b=none:=fun b hb=>by obtain⟨i,q,hl,hg,hq⟩:=jk.1 hb;exact W.sepR i q hl hg b hq
   let R':Ro:=fun b=>if b∈fpsAll G h then w.heap[b]? else R b
   have hR:∀b o,R b=some o→R' b=some o:=fun b o hb=>by show(if b∈fpsAll G h then w.heap[b]? else R b)=some o;rw[if_neg (fun hm=>by rw[hno b hm]at hb;cases hb)];exact hb
   have hf:∀b∈fpsAll G h,∀o,w.heap[b]? =some o→R' b=some o:=fun b hb o ho=>by show(if b∈fpsAll G h then w.heap[b]? else R b)=some o;rw[if_pos hb];exact ho
   have hro:∀b o,R' b=some o→w.heap[b]? =some o:=fun b o hb=>by
    have hb:(if b∈fpsAll G h then w.heap[b]? else R b)=some o:=hb;split at hb
    ·exact hb
    ·exact W.ro b o hb
   have W':WRel R' [] [] w:=⟨rfl,fun i o q ho=>by simp[hget]at ho,fun i j ri rj _ hl=>by obtain⟨o,ho⟩:=hl;simp[hget]at ho,fun i q hl=>by obtain⟨o,ho⟩:=hl;simp[hget]at ho,hro⟩
   refine(hcall R' [] w vs (hst R R' hR hGP) W' (QU W hR hf args vs hids hargs)).mono fun e w' ⟨V,R2,G2,he,hW2,hs2,hV⟩=>?_
   obtain⟨hh,hpl⟩:=hp x r;have hno2:∀i o,hget (h.map fun _=>none) i=some o→False:=fun i o ho=>by unfold hget at ho;rw[List.getElem?_map]at ho;cases h[i]? <;>simp at ho
   have nl:∀i,¬live (h.map fun _=>none) i:=fun i ⟨o,ho⟩=>hno2 i o ho
   refine⟨V,R2,G,he,⟨by show G.length=(h.map fun _=>none).length;rw[List.length_map];exact W.len,fun i o q ho=>(hno2 i o ho).elim,fun i j ri rj _ hl=>(nl i hl).elim,fun i q hl=>(nl i hl).elim,hW2.ro⟩,
    ⟨hs2.keeps.wide,fun b o hb=>hs2.rsub b o (hR b o hb),fun b hb=>?_,fun i q b hl=>(nl i hl).elim,fun i _ hl=>(nl i hl).elim,by show h.length≤(h.map fun _=>none).length;rw[List.length_map];exact Nat.le_refl _⟩,
    zk (fun _ _ h=>h) (C.enc x r).v V (fun i hm=>by rw[hpl]at hm;cases hm) hV⟩
   rcases hs2.rnew b hb with h3|h3|h3
   ·by_cases hm:b∈fpsAll G h
    ·exact .inr (.inl hm)
    ·left;intro hn;apply h3;show(if b∈fpsAll G h then w.heap[b]? else R b)=none;rw[if_neg hm];exact hn
   ·cases h3
   ·exact .inr (.inr h3)
  ·cases hd
 ·cases hd
end Go.Am
